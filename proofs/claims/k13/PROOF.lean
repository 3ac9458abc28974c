import PyProof.Rows.All
import Wide.All
import OpenK.AllK
import Wide.FinOn
import KE.KStateDown
import HandS.Base
import HandS.Call
import HandS.List
import HandS.Comp
import HandS.Ends
import HandS.Dict
import HandS.Iter
import HandS.Text
import HandS.Words
import HandS.WordsList
import HandS.Conv
import HandS.Zip
import HandS.Walk
import HandS.TupAny
import HandS.TupMul
import HandS.IsInst
import HandS.CallLocal
import HandS.SetFor
import HandS.Strs
import HandS.Style
import HandS.SortInts
import HandS.Defaults
import HandS.Deep
import KE.GoesMore
import KE.GoesEnum
import PyProof.Draws
import HandS.HeadHook1
import HandS.Codes
import HandS.Head0
import HandS.Head1
import HandS.Head2
import HandS.HeadEnd
import HandS.HeadHook2
import PySem.Challenge.RW_onepicture_k13_whole_new_names
set_option Elab.async false
set_option linter.all false
/-! The plain law, part 1: selections, free numbers, the law's own loop. No program in sight. -/
namespace Nm
/-- what f gives at 0 .. n-1, in order -/
def sel {β : Type} (n : Nat) (f : Nat → Option β) : List β := (List.range n).filterMap f
theorem sel_zero {β : Type} (f : Nat → Option β) : sel 0 f = [] := rfl
theorem sel_succ {β : Type} (n : Nat) (f : Nat → Option β) : sel (n + 1) f = sel n f ++ (f n).toList := by
  unfold sel
  rw [List.range_succ, List.filterMap_append]
  congr 1
theorem sel_some {β : Type} {n : Nat} {f : Nat → Option β} {y : β} (h : f n = some y) : sel (n + 1) f = sel n f ++ [y] := by
  rw [sel_succ, h]; rfl
theorem sel_none {β : Type} {n : Nat} {f : Nat → Option β} (h : f n = none) : sel (n + 1) f = sel n f := by
  rw [sel_succ, h]; exact List.append_nil _
theorem sel_len {β : Type} (n : Nat) (f : Nat → Option β) : (sel n f).length ≤ n := by
  induction n with
  | zero => exact Nat.le_refl _
  | succ n ih =>
    rw [sel_succ, List.length_append]
    have : (f n).toList.length ≤ 1 := by cases f n <;> simp
    omega
theorem sel_congr {β : Type} {n : Nat} {f g : Nat → Option β} (h : ∀ i, i < n → f i = g i) : sel n f = sel n g := by
  induction n with
  | zero => rfl
  | succ n ih => rw [sel_succ, sel_succ, ih (fun i hi => h i (by omega)), h n (by omega)]
theorem sel_map {β γ : Type} (n : Nat) (f : Nat → Option β) (g : β → γ) : (sel n f).map g = sel n (fun i => (f i).map g) := by
  induction n with
  | zero => rfl
  | succ n ih =>
    rw [sel_succ, sel_succ, List.map_append, ih]
    cases f n <;> rfl
theorem mem_sel {β : Type} {n : Nat} {f : Nat → Option β} {y : β} : y ∈ sel n f ↔ ∃ i, i < n ∧ f i = some y := by
  unfold sel
  rw [List.mem_filterMap]
  constructor
  · rintro ⟨i, h1, h2⟩; exact ⟨i, List.mem_range.mp h1, h2⟩
  · rintro ⟨i, h1, h2⟩; exact ⟨i, List.mem_range.mpr h1, h2⟩
theorem sel_all {β : Type} (n : Nat) (f : Nat → β) : (sel n fun i => some (f i)).length = n := by
  induction n with
  | zero => rfl
  | succ n ih => rw [sel_succ, List.length_append, ih]; rfl
theorem sel_get {β : Type} (xs : List β) : sel xs.length (fun i => xs[i]?) = xs := by
  have key : ∀ n, n ≤ xs.length → sel n (fun i => xs[i]?) = xs.take n := by
    intro n
    induction n with
    | zero => intro _; rfl
    | succ n ih =>
      intro h
      rw [sel_succ, ih (by omega), List.take_add_one]
  rw [key _ (Nat.le_refl _), List.take_length]
theorem sel_le {β γ : Type} {n : Nat} {f : Nat → Option β} {g : Nat → Option γ} (h : ∀ i, i < n → f i ≠ none → g i ≠ none) : (sel n f).length ≤ (sel n g).length := by
  induction n with
  | zero => exact Nat.le_refl _
  | succ n ih =>
    rw [sel_succ, sel_succ, List.length_append, List.length_append]
    have := ih fun i hi => h i (by omega)
    have h2 := h n (by omega)
    cases hf : f n with
    | none => simp; omega
    | some a =>
      cases hg : g n with
      | none => exact absurd hg (h2 (by rw [hf]; simp))
      | some b => simp; omega
theorem sel_lt {β γ : Type} {n k : Nat} {f : Nat → Option β} {g : Nat → Option γ} (h : ∀ i, i < n → f i ≠ none → g i ≠ none) (hk : k < n) (h1 : f k = none) (h2 : g k ≠ none) :
    (sel n f).length + 1 ≤ (sel n g).length := by
  induction n with
  | zero => omega
  | succ n ih =>
    rw [sel_succ, sel_succ, List.length_append, List.length_append]
    by_cases e : k = n
    · subst e
      have := sel_le (n := k) (f := f) (g := g) fun i hi => h i (by omega)
      rw [h1]
      cases hg : g k with
      | none => exact absurd hg h2
      | some b => simp; omega
    · have := ih (fun i hi => h i (by omega)) (by omega)
      have h3 := h n (by omega)
      cases hf : f n with
      | none => simp; omega
      | some a =>
        cases hg : g n with
        | none => exact absurd hg (h3 (by rw [hf]; simp))
        | some b => simp; omega

/-! ### free numbers -/
/-- how many of 1 .. m are not in t -/
def cnt (t : List Int) : Nat → Nat
  | 0 => 0
  | m + 1 => cnt t m + if ((m : Int) + 1) ∈ t then 0 else 1
theorem cnt_mono (t : List Int) {a b : Nat} (h : a ≤ b) : cnt t a ≤ cnt t b := by
  induction b with
  | zero => have : a = 0 := by omega
            subst this; exact Nat.le_refl _
  | succ b ih =>
    by_cases e : a = b + 1
    · subst e; exact Nat.le_refl _
    · have := ih (by omega)
      show cnt t a ≤ cnt t b + _
      omega
theorem cnt_cons_far (a : Int) (t : List Int) : ∀ m : Nat, (m : Int) < a → cnt (a :: t) m = cnt t m
  | 0, _ => rfl
  | m + 1, h => by
    have ih := cnt_cons_far a t m (by omega)
    have e : ((m : Int) + 1) ∈ a :: t ↔ ((m : Int) + 1) ∈ t := by
      constructor
      · intro q
        rcases List.mem_cons.mp q with q | q
        · omega
        · exact q
      · exact List.mem_cons_of_mem _
    show cnt (a :: t) m + (if ((m : Int) + 1) ∈ a :: t then 0 else 1) = cnt t m + (if ((m : Int) + 1) ∈ t then 0 else 1)
    rw [ih]
    by_cases q : ((m : Int) + 1) ∈ t
    · rw [if_pos q, if_pos (e.mpr q)]
    · rw [if_neg q, if_neg (fun z => q (e.mp z))]
theorem cnt_cons (a : Int) (t : List Int) : ∀ m : Nat, cnt t m ≤ cnt (a :: t) m + 1
  | 0 => by show 0 ≤ _; omega
  | m + 1 => by
    by_cases ha : (m : Int) < a
    · have h1 := cnt_cons_far a t m ha
      show cnt t m + _ ≤ cnt (a :: t) m + _ + 1
      rw [h1]
      split <;> split <;> omega
    · have ih := cnt_cons a t m
      have e : ((m : Int) + 1) ∈ a :: t ↔ ((m : Int) + 1) ∈ t := by
        constructor
        · intro q
          rcases List.mem_cons.mp q with q | q
          · omega
          · exact q
        · exact List.mem_cons_of_mem _
      show cnt t m + (if ((m : Int) + 1) ∈ t then 0 else 1) ≤ cnt (a :: t) m + (if ((m : Int) + 1) ∈ a :: t then 0 else 1) + 1
      by_cases q : ((m : Int) + 1) ∈ t
      · rw [if_pos q, if_pos (e.mpr q)]; omega
      · rw [if_neg q, if_neg (fun z => q (e.mp z))]; omega
theorem cnt_nil : ∀ m : Nat, cnt [] m = m
  | 0 => rfl
  | m + 1 => by
    show cnt [] m + (if ((m : Int) + 1) ∈ ([] : List Int) then 0 else 1) = m + 1
    rw [cnt_nil m, if_neg (by simp)]
theorem cnt_ge : ∀ (t : List Int) (m : Nat), m ≤ cnt t m + t.length
  | [], m => by rw [cnt_nil]; simp
  | a :: t, m => by
    have h1 := cnt_ge t m
    have h2 := cnt_cons a t m
    rw [List.length_cons]
    omega
/-- x is the r-th number from 1 on (r from 0) that is not in t -/
structure IsFree (t : List Int) (r : Nat) (x : Nat) : Prop where
  pos : 1 ≤ x
  out : ((x : Nat) : Int) ∉ t
  cn : cnt t (x - 1) = r
theorem IsFree.uniq {t : List Int} {r x y : Nat} (a : IsFree t r x) (b : IsFree t r y) : x = y := by
  have key : ∀ {x y : Nat}, IsFree t r x → IsFree t r y → x < y → False := by
    intro x y a b h
    have h1 := cnt_mono t (show x ≤ y - 1 by omega)
    have e : x = (x - 1) + 1 := by have := a.pos; omega
    have h2 : cnt t x = cnt t (x - 1) + 1 := by
      rw [e]
      show cnt t (x - 1) + (if (((x - 1 : Nat) : Int) + 1) ∈ t then 0 else 1) = _
      rw [if_neg]
      · rfl
      · have q : (((x - 1 : Nat) : Int) + 1) = (x : Int) := by have := a.pos; omega
        rw [q]; exact a.out
    have := a.cn
    have := b.cn
    omega
  rcases Nat.lt_trichotomy x y with h | h | h
  · exact (key a b h).elim
  · exact h
  · exact (key b a h).elim
theorem IsFree.le {t : List Int} {r x : Nat} (a : IsFree t r x) : x ≤ r + 1 + t.length := by
  have h := cnt_ge t (x - 1)
  have := a.cn
  have := a.pos
  omega
/-- the free numbers up to m -/
def frees (t : List Int) (m : Nat) : List Int := sel m fun k => if ((k : Int) + 1) ∈ t then none else some ((k : Int) + 1)
theorem frees_len (t : List Int) : ∀ m, (frees t m).length = cnt t m
  | 0 => rfl
  | m + 1 => by
    unfold frees
    rw [sel_succ, List.length_append]
    have ih := frees_len t m
    unfold frees at ih
    rw [ih]
    show _ = cnt t m + (if ((m : Int) + 1) ∈ t then 0 else 1)
    split <;> rfl
theorem frees_get (t : List Int) : ∀ (m r : Nat), r < (frees t m).length → ∃ x : Nat, (frees t m)[r]? = some (x : Int) ∧ IsFree t r x
  | 0, r, h => by simp [frees, sel] at h
  | m + 1, r, h => by
    by_cases q : ((m : Int) + 1) ∈ t
    · have e : frees t (m + 1) = frees t m := sel_none (by rw [if_pos q])
      rw [e] at h ⊢
      exact frees_get t m r h
    · have e : frees t (m + 1) = frees t m ++ [(m : Int) + 1] := sel_some (by rw [if_neg q])
      rw [e] at h ⊢
      by_cases hr : r < (frees t m).length
      · obtain ⟨x, h1, h2⟩ := frees_get t m r hr
        exact ⟨x, by rw [List.getElem?_append_left hr]; exact h1, h2⟩
      · have hr' : r = (frees t m).length := by
          rw [List.length_append] at h
          simp at h
          omega
        refine ⟨m + 1, ?_, ⟨by omega, ?_, ?_⟩⟩
        · rw [hr', List.getElem?_append_right (Nat.le_refl _), Nat.sub_self]
          rfl
        · have : (((m + 1 : Nat)) : Int) = (m : Int) + 1 := by omega
          rw [this]; exact q
        · show cnt t (m + 1 - 1) = r
          rw [Nat.add_sub_cancel, hr', frees_len]

/-! ### the law's own loop -/
/-- for one in l: if one == w: w = w + 1 -/
def scan : List Int → Int → Int
  | [], w => w
  | a :: r, w => scan r (if a = w then w + 1 else w)
theorem scan_snoc (l : List Int) (a w : Int) : scan (l ++ [a]) w = if a = scan l w then scan l w + 1 else scan l w := by
  induction l generalizing w with
  | nil => rfl
  | cons b r ih => exact ih _
theorem scan_ok : ∀ (l : List Int) (w : Int), l.Pairwise (· ≤ ·) → w ≤ scan l w ∧ scan l w ∉ l ∧ ∀ z, w ≤ z → z < scan l w → z ∈ l
  | [], w, _ => ⟨Int.le_refl _, by simp, fun z h1 h2 => absurd (show z < w from h2) (by omega)⟩
  | a :: r, w, hp => by
    obtain ⟨h1, h2⟩ := List.pairwise_cons.mp hp
    show w ≤ scan r (if a = w then w + 1 else w) ∧ scan r (if a = w then w + 1 else w) ∉ a :: r ∧ ∀ z, w ≤ z → z < scan r (if a = w then w + 1 else w) → z ∈ a :: r
    by_cases e : a = w
    · rw [if_pos e]
      obtain ⟨i1, i2, i3⟩ := scan_ok r (w + 1) h2
      refine ⟨by omega, fun q => ?_, fun z hz1 hz2 => ?_⟩
      · rcases List.mem_cons.mp q with q | q
        · omega
        · exact i2 q
      · by_cases ez : z = w
        · rw [ez, e]; exact List.mem_cons_self
        · exact List.mem_cons_of_mem _ (i3 z (by omega) hz2)
    · rw [if_neg e]
      obtain ⟨i1, i2, i3⟩ := scan_ok r w h2
      refine ⟨i1, fun q => ?_, fun z hz1 hz2 => List.mem_cons_of_mem _ (i3 z hz1 hz2)⟩
      rcases List.mem_cons.mp q with q | q
      · by_cases hw : scan r w = w
        · omega
        · have hm := i3 w (Int.le_refl _) (by omega)
          have := h1 w hm
          omega
      · exact i2 q
theorem scan_pos {l : List Int} {w : Int} (hp : l.Pairwise (· ≤ ·)) : w ≤ scan l w := (scan_ok l w hp).1
/-- r + 1 turns of it from 0 -/
def turns (l : List Int) : Nat → Int
  | 0 => 0
  | r + 1 => scan l (turns l r + 1)
theorem cnt_congr {t l : List Int} (h : ∀ z, z ∈ l ↔ z ∈ t) : ∀ m, cnt l m = cnt t m
  | 0 => rfl
  | m + 1 => by
    show cnt l m + (if ((m : Int) + 1) ∈ l then 0 else 1) = cnt t m + (if ((m : Int) + 1) ∈ t then 0 else 1)
    rw [cnt_congr h m]
    by_cases q : ((m : Int) + 1) ∈ l
    · rw [if_pos q, if_pos ((h _).mp q)]
    · rw [if_neg q, if_neg (fun z => q ((h _).mpr z))]
theorem cnt_same {t : List Int} {a b : Nat} (hab : a ≤ b) (h : ∀ z : Int, (a : Int) < z → z ≤ (b : Int) → z ∈ t) : cnt t b = cnt t a := by
  induction b with
  | zero => have : a = 0 := by omega
            subst this; rfl
  | succ b ih =>
    by_cases e : a = b + 1
    · subst e; rfl
    · have i := ih (by omega) fun z h1 h2 => h z h1 (by omega)
      show cnt t b + (if ((b : Int) + 1) ∈ t then 0 else 1) = cnt t a
      rw [if_pos (h _ (by omega) (by omega)), i, Nat.add_zero]
theorem turns_free {t l : List Int} (hp : l.Pairwise (· ≤ ·)) (hm : ∀ z, z ∈ l ↔ z ∈ t) : ∀ r : Nat, ∃ x : Nat, turns l (r + 1) = (x : Int) ∧ IsFree t r x := by
  have key : ∀ (w : Nat), ∃ x : Nat, scan l ((w : Int) + 1) = (x : Int) ∧ 1 ≤ x ∧ ((x : Nat) : Int) ∉ t ∧ cnt t (x - 1) = cnt t w := by
    intro w
    obtain ⟨h1, h2, h3⟩ := scan_ok l ((w : Int) + 1) hp
    refine ⟨(scan l ((w : Int) + 1)).toNat, by omega, by omega, ?_, ?_⟩
    · have : (((scan l ((w : Int) + 1)).toNat : Nat) : Int) = scan l ((w : Int) + 1) := by omega
      rw [this]
      exact fun q => h2 ((hm _).mpr q)
    · refine cnt_same (by omega) fun z hz1 hz2 => (hm z).mp (h3 z (by omega) (by omega))
  intro r
  induction r with
  | zero =>
    obtain ⟨x, e, h1, h2, h3⟩ := key 0
    exact ⟨x, e, h1, h2, h3⟩
  | succ r ih =>
    obtain ⟨y, ey, fy⟩ := ih
    obtain ⟨x, e, h1, h2, h3⟩ := key y
    refine ⟨x, ?_, h1, h2, ?_⟩
    · show scan l (turns l (r + 1) + 1) = x
      rw [ey]; exact e
    · rw [h3]
      have e2 : y = (y - 1) + 1 := by have := fy.pos; omega
      rw [e2]
      show cnt t (y - 1) + (if (((y - 1 : Nat) : Int) + 1) ∈ t then 0 else 1) = r + 1
      rw [if_neg, fy.cn]
      have q : (((y - 1 : Nat) : Int) + 1) = (y : Int) := by have := fy.pos; omega
      rw [q]; exact fy.out
/-- both find the same number -/
theorem turns_frees {t l : List Int} (hp : l.Pairwise (· ≤ ·)) (hm : ∀ z, z ∈ l ↔ z ∈ t) {m r : Nat} (h : r < (frees t m).length) :
    (frees t m)[r]? = some (turns l (r + 1)) := by
  obtain ⟨x, e1, f1⟩ := frees_get t m r h
  obtain ⟨y, e2, f2⟩ := turns_free hp hm r
  rw [e1, e2, f1.uniq f2]
/-- the place of y in a sorted list -/
theorem index_sorted : ∀ (l : List Int) (y : Int), l.Pairwise (· ≤ ·) → y ∈ l → l[(l.countP (· < y))]? = some y ∧ ∀ m : Nat, m < l.countP (· < y) → ∃ z, l[m]? = some z ∧ z < y
  | [], y, _, h => by simp at h
  | a :: r, y, hp, hy => by
    obtain ⟨h1, h2⟩ := List.pairwise_cons.mp hp
    by_cases ha : a < y
    · have hy' : y ∈ r := by
        rcases List.mem_cons.mp hy with q | q
        · omega
        · exact q
      obtain ⟨i1, i2⟩ := index_sorted r y h2 hy'
      have e : (a :: r).countP (· < y) = r.countP (· < y) + 1 := List.countP_cons_of_pos (by simpa using ha)
      rw [e]
      refine ⟨by rw [List.getElem?_cons_succ]; exact i1, fun m hm => ?_⟩
      cases m with
      | zero => exact ⟨a, rfl, ha⟩
      | succ m =>
        rw [List.getElem?_cons_succ]
        exact i2 m (by omega)
    · have e0 : r.countP (· < y) = 0 := by
        rw [List.countP_eq_zero]
        intro z hz
        have := h1 z hz
        simp
        omega
      have e : (a :: r).countP (· < y) = 0 := by
        rw [List.countP_cons_of_neg (by simpa using ha), e0]
      rw [e]
      have ea : a = y := by
        rcases List.mem_cons.mp hy with q | q
        · exact q.symm
        · have := h1 y q
          omega
      exact ⟨by rw [ea]; rfl, fun m hm => absurd hm (by omega)⟩
end Nm


set_option Elab.async false
set_option linter.all false
/-! The plain law, part 2: standings, steps, what holds of all that come by steps. -/
namespace Nm
abbrev Cell := Option (Int × Int)
abbrev Stt := Option (Int × Bool)
structure Sd where
  cells : List Cell
  states : List Stt
  told : List (List Int)
theorem gd_set {α : Type} (l : List α) (h j : Nat) (x d : α) (hh : h < l.length) : (l.set h x).getD j d = if j = h then x else l.getD j d := by
  simp only [List.getD_eq_getElem?_getD]
  by_cases e : j = h
  · subst e
    rw [if_pos rfl, List.getElem?_set_self hh]
    rfl
  · rw [if_neg e, List.getElem?_set_ne (fun q => e q.symm)]
theorem gd_get {α : Type} (l : List α) (j : Nat) (d : α) (h : j < l.length) : l[j]? = some (l.getD j d) := by
  simp [List.getD_eq_getElem?_getD, List.getElem?_eq_getElem h]
theorem gd_out {α : Type} (l : List α) (j : Nat) (d : α) (h : l.length ≤ j) : l.getD j d = d := by
  simp [List.getD_eq_getElem?_getD, List.getElem?_eq_none h]
/-- the wishes of others -/
def taken (cells : List Cell) (h : Nat) : List Int := sel cells.length fun j => if j = h then none else (cells.getD j none).map (·.2)
/-- how many old names in cells are below o -/
def below (o : Int) (c : Cell) : Option Int := match c with
  | some (a, _) => if a < o then some a else none
  | none => none
def rank (cells : List Cell) (o : Int) : Nat := (sel cells.length fun j => below o (cells.getD j none)).length
/-- the next wish -/
def wish (cells : List Cell) (h : Nat) (o : Int) : Int := (frees (taken cells h) (2 * cells.length)).getD (rank cells o) 0
/-- the standing behind the next step of h -/
def moved (rows : List Int) (S : Sd) (h : Nat) : Sd := match S.states.getD h none with
  | none => S
  | some (w, false) => ⟨S.cells.set h (some (rows.getD h 0, w)), S.states.set h (some (w, true)), S.told⟩
  | some (w, true) => if w ∈ taken S.cells h then ⟨S.cells, S.states.set h (some (wish S.cells h (rows.getD h 0), false)), S.told⟩
    else ⟨S.cells, S.states.set h none, S.told.set h (S.told.getD h [] ++ [w])⟩
def begun (n : Nat) : Sd := ⟨List.replicate n none, List.replicate n (some (1, false)), List.replicate n []⟩
/-- how many hands came -/
def many (cells : List Cell) : Nat := (sel cells.length fun j => cells.getD j none).length
/-- what holds of a standing that comes by steps -/
structure Ok (rows : List Int) (S : Sd) : Prop where
  lc : S.cells.length = rows.length
  ls : S.states.length = rows.length
  lt : S.told.length = rows.length
  c0 : ∀ h, h < rows.length → S.cells.getD h none = none → S.states.getD h none = some (1, false)
  c1 : ∀ h o w, S.cells.getD h none = some (o, w) → o = rows.getD h 0 ∧ 1 ≤ w ∧ w ≤ 2 * (many S.cells : Int) - 1
  s1 : ∀ h w, S.states.getD h none = some (w, true) → S.cells.getD h none = some (rows.getD h 0, w)
  s2 : ∀ h w b, S.states.getD h none = some (w, b) → S.told.getD h [] = [] ∧ 1 ≤ w ∧ (w = 1 ∨ w ≤ 2 * (many S.cells : Int) - 1)
  s3 : ∀ h, h < rows.length → S.states.getD h none = none → ∃ w, S.told.getD h [] = [w] ∧ S.cells.getD h none = some (rows.getD h 0, w)
  un : ∀ i j w, i < rows.length → j < rows.length → i ≠ j → S.states.getD i none = none → S.states.getD j none = none → S.told.getD i [] = [w] → S.told.getD j [] ≠ [w]
theorem gd_rep {α : Type} (n j : Nat) (x d : α) (h : j < n) : (List.replicate n x).getD j d = x := by
  simp [List.getD_eq_getElem?_getD, List.getElem?_replicate, h]
theorem ok_begun (rows : List Int) : Ok rows (begun rows.length) where
  lc := List.length_replicate
  ls := List.length_replicate
  lt := List.length_replicate
  c0 := fun h hh _ => gd_rep _ _ _ _ hh
  c1 := fun h o w e => by
    by_cases hh : h < rows.length
    · rw [show (begun rows.length).cells = List.replicate rows.length none from rfl, gd_rep _ _ _ _ hh] at e
      cases e
    · rw [gd_out _ _ _ (by rw [show (begun rows.length).cells = List.replicate rows.length none from rfl, List.length_replicate]; omega)] at e
      cases e
  s1 := fun h w e => by
    by_cases hh : h < rows.length
    · rw [show (begun rows.length).states = List.replicate rows.length (some (1, false)) from rfl, gd_rep _ _ _ _ hh] at e
      cases e
    · rw [gd_out _ _ _ (by rw [show (begun rows.length).states = List.replicate rows.length (some (1, false)) from rfl, List.length_replicate]; omega)] at e
      cases e
  s2 := fun h w b e => by
    by_cases hh : h < rows.length
    · rw [show (begun rows.length).states = List.replicate rows.length (some (1, false)) from rfl, gd_rep _ _ _ _ hh] at e
      cases e
      exact ⟨gd_rep _ _ _ _ hh, by omega, .inl rfl⟩
    · rw [gd_out _ _ _ (by rw [show (begun rows.length).states = List.replicate rows.length (some (1, false)) from rfl, List.length_replicate]; omega)] at e
      cases e
  s3 := fun h hh e => by
    rw [show (begun rows.length).states = List.replicate rows.length (some (1, false)) from rfl, gd_rep _ _ _ _ hh] at e
    cases e
  un := fun i j w hi hj _ e => by
    rw [show (begun rows.length).states = List.replicate rows.length (some (1, false)) from rfl, gd_rep _ _ _ _ hi] at e
    cases e
section
variable {rows : List Int} {S : Sd} {h : Nat}
theorem many_le (cells : List Cell) : many cells ≤ cells.length := sel_len _ _
theorem taken_many {cells : List Cell} {c : Int × Int} (hc : cells.getD h none = some c) : (taken cells h).length + 1 ≤ many cells := by
  have hh : h < cells.length := by
    by_cases q : h < cells.length
    · exact q
    · rw [gd_out _ _ _ (by omega)] at hc; cases hc
  refine sel_lt (k := h) (fun i hi q z => q ?_) hh (if_pos rfl) (by rw [hc]; simp)
  show (if i = h then none else (cells.getD i none).map (·.2)) = none
  rw [z]
  split <;> rfl
theorem rank_many {cells : List Cell} {o w : Int} (hc : cells.getD h none = some (o, w)) : rank cells o + 1 ≤ many cells := by
  have hh : h < cells.length := by
    by_cases q : h < cells.length
    · exact q
    · rw [gd_out _ _ _ (by omega)] at hc; cases hc
  refine sel_lt (k := h) (fun i hi q z => q ?_) hh ?_ (by rw [hc]; simp)
  · show below o (cells.getD i none) = none
    rw [z]; rfl
  · rw [hc]
    show (if o < o then _ else none) = none
    rw [if_neg (Int.lt_irrefl o)]
/-- there is a next wish -/
theorem wish_at {cells : List Cell} {o w : Int} (hc : cells.getD h none = some (o, w)) : rank cells o < (frees (taken cells h) (2 * cells.length)).length := by
  have h1 := taken_many hc
  have h2 := rank_many hc
  have h3 := many_le cells
  have h4 := cnt_ge (taken cells h) (2 * cells.length)
  rw [frees_len]
  omega
theorem wish_get {cells : List Cell} {o w : Int} (hc : cells.getD h none = some (o, w)) : (frees (taken cells h) (2 * cells.length))[rank cells o]? = some (wish cells h o) :=
  gd_get _ _ _ (wish_at hc)
theorem wish_free {cells : List Cell} {o w : Int} (hc : cells.getD h none = some (o, w)) : ∃ x : Nat, wish cells h o = (x : Int) ∧ IsFree (taken cells h) (rank cells o) x := by
  obtain ⟨x, e, f⟩ := frees_get _ _ _ (wish_at hc)
  rw [wish_get hc] at e
  exact ⟨x, Option.some.inj e, f⟩
theorem wish_out {cells : List Cell} {o w : Int} (hc : cells.getD h none = some (o, w)) : wish cells h o ∉ taken cells h := by
  obtain ⟨x, e, f⟩ := wish_free hc
  rw [e]; exact f.out
theorem wish_le {cells : List Cell} {o w : Int} (hc : cells.getD h none = some (o, w)) : 1 ≤ wish cells h o ∧ wish cells h o ≤ 2 * (many cells : Int) - 1 := by
  obtain ⟨x, e, f⟩ := wish_free hc
  have h1 := f.le
  have h2 := f.pos
  have h3 := taken_many hc
  have h4 := rank_many hc
  omega
theorem many_set (cells : List Cell) (c : Int × Int) (hh : h < cells.length) : many cells ≤ many (cells.set h (some c)) ∧ 1 ≤ many (cells.set h (some c)) := by
  unfold many
  rw [List.length_set]
  refine ⟨sel_le fun i hi q => ?_, ?_⟩
  · rw [gd_set _ _ _ _ _ hh]
    split
    · simp
    · exact q
  · have : (sel cells.length fun j => if j = h then none else ((cells.set h (some c)).getD j none)).length + 1 ≤ (sel cells.length fun j => (cells.set h (some c)).getD j none).length := by
      refine sel_lt (k := h) (fun i hi q z => q ?_) hh (if_pos rfl) (by rw [gd_set _ _ _ _ _ hh, if_pos rfl]; simp)
      show (if i = h then none else ((cells.set h (some c)).getD i none)) = none
      rw [z]; split <;> rfl
    omega
theorem moved_put {w : Int} (e : S.states.getD h none = some (w, false)) : moved rows S h = ⟨S.cells.set h (some (rows.getD h 0, w)), S.states.set h (some (w, true)), S.told⟩ := by
  unfold moved; rw [e]
theorem moved_clash {w : Int} (e : S.states.getD h none = some (w, true)) (q : w ∈ taken S.cells h) : moved rows S h = ⟨S.cells, S.states.set h (some (wish S.cells h (rows.getD h 0), false)), S.told⟩ := by
  unfold moved; rw [e]; exact if_pos q
theorem moved_tell {w : Int} (e : S.states.getD h none = some (w, true)) (q : w ∉ taken S.cells h) : moved rows S h = ⟨S.cells, S.states.set h none, S.told.set h (S.told.getD h [] ++ [w])⟩ := by
  unfold moved; rw [e]; exact if_neg q
theorem lt_of_state {l : List Stt} {st : Int × Bool} (e : l.getD h none = some st) : h < l.length := by
  by_cases q : h < l.length
  · exact q
  · rw [gd_out _ _ _ (by omega)] at e; cases e
theorem mem_taken {cells : List Cell} {i : Nat} {o w : Int} (hc : cells.getD i none = some (o, w)) (ne : i ≠ h) : w ∈ taken cells h := by
  have hi : i < cells.length := by
    by_cases q : i < cells.length
    · exact q
    · rw [gd_out _ _ _ (by omega)] at hc; cases hc
  exact mem_sel.mpr ⟨i, hi, by rw [if_neg ne, hc]; rfl⟩
theorem Ok.moved (k : Ok rows S) (h : Nat) : Ok rows (moved rows S h) := by
  cases est : S.states.getD h none with
  | none => 
    have : Nm.moved rows S h = S := by unfold Nm.moved; rw [est]
    rw [this]; exact k
  | some st =>
    obtain ⟨w, b⟩ := st
    have hs := lt_of_state est
    have hr : h < rows.length := by rw [← k.ls]; exact hs
    have hcl : h < S.cells.length := by rw [k.lc]; exact hr
    have htl : h < S.told.length := by rw [k.lt]; exact hr
    obtain ⟨t0, w1, wb⟩ := k.s2 h w b est
    cases b with
    | false =>
      rw [moved_put est]
      obtain ⟨m1, m2⟩ := many_set S.cells (rows.getD h 0, w) hcl
      refine ⟨by rw [List.length_set]; exact k.lc, by rw [List.length_set]; exact k.ls, k.lt, fun i hi e => ?_, fun i o v e => ?_, fun i v e => ?_, fun i v b e => ?_, fun i hi e => ?_, fun i j v hi hj ne ei ej => ?_⟩
      · dsimp only at e ⊢
        rw [gd_set _ _ _ _ _ hcl] at e
        rw [gd_set _ _ _ _ _ hs]
        by_cases q : i = h
        · rw [if_pos q] at e; cases e
        · rw [if_neg q] at e ⊢; exact k.c0 i hi e
      · dsimp only at e ⊢
        rw [gd_set _ _ _ _ _ hcl] at e
        by_cases q : i = h
        · rw [if_pos q] at e
          cases e
          rw [q]
          refine ⟨rfl, w1, ?_⟩
          rcases wb with z | z <;> omega
        · rw [if_neg q] at e
          obtain ⟨h1, h2, h3⟩ := k.c1 i o v e
          exact ⟨h1, h2, by omega⟩
      · dsimp only at e ⊢
        rw [gd_set _ _ _ _ _ hs] at e
        rw [gd_set _ _ _ _ _ hcl]
        by_cases q : i = h
        · rw [if_pos q] at e ⊢; cases e; rw [q]
        · rw [if_neg q] at e ⊢; exact k.s1 i v e
      · dsimp only at e ⊢
        rw [gd_set _ _ _ _ _ hs] at e
        by_cases q : i = h
        · rw [if_pos q] at e; cases e; rw [q]
          refine ⟨t0, w1, ?_⟩
          rcases wb with z | z
          · exact .inl z
          · exact .inr (by omega)
        · rw [if_neg q] at e
          obtain ⟨h1, h2, h3⟩ := k.s2 i v b e
          refine ⟨h1, h2, ?_⟩
          rcases h3 with z | z
          · exact .inl z
          · exact .inr (by omega)
      · dsimp only at e ⊢
        rw [gd_set _ _ _ _ _ hs] at e
        rw [gd_set _ _ _ _ _ hcl]
        by_cases q : i = h
        · rw [if_pos q] at e; cases e
        · rw [if_neg q] at e ⊢; exact k.s3 i hi e
      · dsimp only at ei ej ⊢
        rw [gd_set _ _ _ _ _ hs] at ei ej
        by_cases q : i = h
        · rw [if_pos q] at ei; cases ei
        · by_cases q' : j = h
          · rw [if_pos q'] at ej; cases ej
          · rw [if_neg q] at ei
            rw [if_neg q'] at ej
            exact k.un i j v hi hj ne ei ej
    | true =>
      have hc := k.s1 h w est
      by_cases q : w ∈ taken S.cells h
      · rw [moved_clash est q]
        obtain ⟨x1, x2⟩ := wish_le hc
        refine ⟨k.lc, by rw [List.length_set]; exact k.ls, k.lt, fun i hi e => ?_, k.c1, fun i v e => ?_, fun i v b e => ?_, fun i hi e => ?_, fun i j v hi hj ne ei ej => ?_⟩
        · dsimp only at e ⊢
          rw [gd_set _ _ _ _ _ hs]
          by_cases q : i = h
          · rw [q, hc] at e; cases e
          · rw [if_neg q]; exact k.c0 i hi e
        · dsimp only at e ⊢
          rw [gd_set _ _ _ _ _ hs] at e
          by_cases q : i = h
          · rw [if_pos q] at e; cases e
          · rw [if_neg q] at e; exact k.s1 i v e
        · dsimp only at e ⊢
          rw [gd_set _ _ _ _ _ hs] at e
          by_cases q : i = h
          · rw [if_pos q] at e; cases e; rw [q]
            exact ⟨t0, x1, .inr x2⟩
          · rw [if_neg q] at e; exact k.s2 i v b e
        · dsimp only at e ⊢
          rw [gd_set _ _ _ _ _ hs] at e
          by_cases q : i = h
          · rw [if_pos q] at e; cases e
          · rw [if_neg q] at e; exact k.s3 i hi e
        · dsimp only at ei ej ⊢
          rw [gd_set _ _ _ _ _ hs] at ei ej
          by_cases q : i = h
          · rw [if_pos q] at ei; cases ei
          · by_cases q' : j = h
            · rw [if_pos q'] at ej; cases ej
            · rw [if_neg q] at ei
              rw [if_neg q'] at ej
              exact k.un i j v hi hj ne ei ej
      · rw [moved_tell est q, t0, List.nil_append]
        have fact : ∀ i v, i < rows.length → i ≠ h → S.states.getD i none = none → S.told.getD i [] = [v] → v ≠ w := fun i v hi ne e t z => by
          obtain ⟨v', t', c'⟩ := k.s3 i hi e
          rw [t] at t'
          have e2 : v = v' := by simpa using t'
          subst e2
          subst z
          exact q (mem_taken c' ne)
        refine ⟨k.lc, by rw [List.length_set]; exact k.ls, by rw [List.length_set]; exact k.lt, fun i hi e => ?_, k.c1, fun i v e => ?_, fun i v b e => ?_, fun i hi e => ?_, fun i j v hi hj ne ei ej ti => ?_⟩
        · dsimp only at e ⊢
          rw [gd_set _ _ _ _ _ hs]
          by_cases q : i = h
          · rw [q, hc] at e; cases e
          · rw [if_neg q]; exact k.c0 i hi e
        · dsimp only at e ⊢
          rw [gd_set _ _ _ _ _ hs] at e
          by_cases q : i = h
          · rw [if_pos q] at e; cases e
          · rw [if_neg q] at e; exact k.s1 i v e
        · dsimp only at e ⊢
          rw [gd_set _ _ _ _ _ hs] at e
          rw [gd_set _ _ _ _ _ htl]
          by_cases q : i = h
          · rw [if_pos q] at e; cases e
          · rw [if_neg q] at e ⊢; exact k.s2 i v b e
        · dsimp only at e ⊢
          rw [gd_set _ _ _ _ _ hs] at e
          rw [gd_set _ _ _ _ _ htl]
          by_cases q : i = h
          · rw [if_pos q, q]; exact ⟨w, rfl, hc⟩
          · rw [if_neg q] at e ⊢; exact k.s3 i hi e
        · dsimp only at ei ej ti ⊢
          rw [gd_set _ _ _ _ _ hs] at ei ej
          rw [gd_set _ _ _ _ _ htl] at ti ⊢
          by_cases q : i = h
          · by_cases q' : j = h
            · exact absurd (q.trans q'.symm) ne
            · rw [if_neg q'] at ej ⊢
              rw [if_pos q] at ti
              have e2 : w = v := by simpa using ti
              exact fun z => fact j v hj q' ej z e2.symm
          · rw [if_neg q] at ei ti
            by_cases q' : j = h
            · rw [if_pos q']
              intro z
              have e2 : w = v := by simpa using z
              exact fact i v hi q ei ti e2.symm
            · rw [if_neg q'] at ej ⊢
              exact k.un i j v hi hj ne ei ej ti
end
end Nm


set_option Elab.async false
set_option linter.all false
/-! The plain law, part 3: weavings, who came, what is told, who is left, whole weavings, a hand alone. -/
namespace Nm
/-- the standing behind a weaving -/
def runW (rows : List Int) (W : List Nat) : Sd := W.foldl (moved rows) (begun rows.length)
theorem runW_snoc (rows : List Int) (W : List Nat) (h : Nat) : runW rows (W ++ [h]) = moved rows (runW rows W) h := by
  unfold runW; rw [List.foldl_append]; rfl
theorem runW_ok (rows : List Int) (W : List Nat) : Ok rows (runW rows W) := by
  have key : ∀ (W : List Nat) (S : Sd), Ok rows S → Ok rows (W.foldl (moved rows) S) := by
    intro W
    induction W with
    | nil => intro S k; exact k
    | cons h W ih => intro S k; exact ih _ (k.moved h)
  exact key W _ (ok_begun rows)
/-- each step of it is one of a hand that is not over -/
def Valid (rows : List Int) (W : List Nat) : Prop := ∀ i h, W[i]? = some h → h < rows.length ∧ (runW rows (W.take i)).states.getD h none ≠ none
theorem valid_nil (rows : List Int) : Valid rows [] := fun i h e => by simp at e
theorem valid_snoc {rows : List Int} {W : List Nat} {h : Nat} (v : Valid rows W) (hh : h < rows.length) (hs : (runW rows W).states.getD h none ≠ none) : Valid rows (W ++ [h]) := fun i j e => by
  by_cases hi : i < W.length
  · rw [List.getElem?_append_left hi] at e
    rw [List.take_append_of_le_length (by omega)]
    exact v i j e
  · have hi2 : i < (W ++ [h]).length := (List.getElem?_eq_some_iff.mp e).1
    rw [List.length_append, List.length_singleton] at hi2
    have ei : i = W.length := by omega
    subst ei
    rw [List.getElem?_append_right (Nat.le_refl _), Nat.sub_self] at e
    have : h = j := by simpa using e
    subst this
    rw [List.take_left]
    exact ⟨hh, hs⟩
theorem Valid.take {rows : List Int} {W : List Nat} (v : Valid rows W) (k : Nat) : Valid rows (W.take k) := fun i h e => by
  have hi : i < (W.take k).length := (List.getElem?_eq_some_iff.mp e).1
  rw [List.length_take] at hi
  rw [List.getElem?_take] at e
  split at e
  · rw [List.take_take]
    have : min i k = i := by omega
    rw [this]
    exact v i h e
  · cases e
theorem Valid.snoc' {rows : List Int} {W : List Nat} {h : Nat} (v : Valid rows (W ++ [h])) : Valid rows W ∧ h < rows.length ∧ (runW rows W).states.getD h none ≠ none := by
  refine ⟨?_, ?_⟩
  · have := v.take W.length
    rwa [List.take_left] at this
  · have := v W.length h (by rw [List.getElem?_append_right (Nat.le_refl _), Nat.sub_self]; rfl)
    rwa [List.take_left] at this
theorem Valid.lt {rows : List Int} {W : List Nat} (v : Valid rows W) : ∀ h ∈ W, h < rows.length := fun h hm => by
  obtain ⟨i, e⟩ := List.mem_iff_getElem?.mp hm
  exact (v i h e).1
/-! ### who came -/
theorem snoc_ind {α : Type} {P : List α → Prop} (h0 : P []) (hs : ∀ l a, P l → P (l ++ [a])) : ∀ l, P l := by
  intro l
  have : ∀ r : List α, P r.reverse := by
    intro r
    induction r with
    | nil => exact h0
    | cons a r ih => rw [List.reverse_cons]; exact hs _ _ ih
  have := this l.reverse
  rwa [List.reverse_reverse] at this
theorem moved_cells {rows : List Int} {S : Sd} (k : Ok rows S) {h : Nat} (hs : S.states.getD h none ≠ none) (i : Nat) :
    (moved rows S h).cells.getD i none ≠ none ↔ (i = h ∨ S.cells.getD i none ≠ none) := by
  cases est : S.states.getD h none with
  | none => exact absurd est hs
  | some st =>
    obtain ⟨w, b⟩ := st
    have hls := lt_of_state est
    have hcl : h < S.cells.length := by rw [k.lc, ← k.ls]; exact hls
    cases b with
    | false =>
      rw [moved_put est]
      dsimp only
      rw [gd_set _ _ _ _ _ hcl]
      by_cases q : i = h
      · rw [if_pos q]; simp [q]
      · rw [if_neg q]; simp [q]
    | true =>
      have hc := k.s1 h w est
      have ec : (moved rows S h).cells = S.cells := by
        by_cases q : w ∈ taken S.cells h
        · rw [moved_clash est q]
        · rw [moved_tell est q]
      rw [ec]
      constructor
      · exact .inr
      · rintro (q | q)
        · rw [q, hc]; simp
        · exact q
theorem came_iff {rows : List Int} : ∀ W : List Nat, Valid rows W → ∀ i, (i ∈ W ↔ (runW rows W).cells.getD i none ≠ none) := by
  refine snoc_ind (fun _ i => ?_) fun W h ih v i => ?_
  · show i ∈ [] ↔ (List.replicate rows.length none : List Cell).getD i none ≠ none
    constructor
    · intro q; simp at q
    · intro q
      exfalso
      apply q
      by_cases hi : i < rows.length
      · exact gd_rep _ _ _ _ hi
      · exact gd_out _ _ _ (by rw [List.length_replicate]; omega)
  · obtain ⟨v1, v2, v3⟩ := v.snoc'
    rw [runW_snoc, moved_cells (runW_ok rows W) v3, List.mem_append, List.mem_singleton, ih v1 i]
    exact ⟨fun q => q.symm, fun q => q.symm⟩
/-- strictly ascending lists with the same members are one -/
theorem asc_eq : ∀ {a b : List Int}, a.Pairwise (· < ·) → b.Pairwise (· < ·) → (∀ z, z ∈ a ↔ z ∈ b) → a = b
  | [], [], _, _, _ => rfl
  | [], y :: b, _, _, h => absurd ((h y).mpr List.mem_cons_self) (by simp)
  | x :: a, [], _, _, h => absurd ((h x).mp List.mem_cons_self) (by simp)
  | x :: a, y :: b, ha, hb, h => by
    obtain ⟨a1, a2⟩ := List.pairwise_cons.mp ha
    obtain ⟨b1, b2⟩ := List.pairwise_cons.mp hb
    have e : x = y := by
      rcases List.mem_cons.mp ((h x).mp List.mem_cons_self) with q | q
      · exact q
      · rcases List.mem_cons.mp ((h y).mpr List.mem_cons_self) with q' | q'
        · exact q'.symm
        · have := b1 x q
          have := a1 y q'
          omega
    subst e
    have : a = b := asc_eq a2 b2 fun z => by
      constructor
      · intro q
        rcases List.mem_cons.mp ((h z).mp (List.mem_cons_of_mem _ q)) with q' | q'
        · have := a1 z q; omega
        · exact q'
      · intro q
        rcases List.mem_cons.mp ((h z).mpr (List.mem_cons_of_mem _ q)) with q' | q'
        · have := b1 z q; omega
        · exact q'
    rw [this]
theorem sel_asc (n : Nat) (p : Nat → Bool) : (sel n fun j => if p j then some (j : Int) else none).Pairwise (· < ·) := by
  induction n with
  | zero => exact List.Pairwise.nil
  | succ n ih =>
    rw [sel_succ, List.pairwise_append]
    refine ⟨ih, ?_, fun a ha b hb => ?_⟩
    · cases p n <;> simp
    · obtain ⟨i, hi, e⟩ := mem_sel.mp ha
      have e2 : a = (i : Int) := by
        split at e
        · exact (Option.some.inj e).symm
        · cases e
      have e3 : b = (n : Int) := by
        cases hp : p n <;> simp [hp] at hb
        exact hb
      omega
theorem sel_len_eq {β γ : Type} {n : Nat} {f : Nat → Option β} {g : Nat → Option γ} (h : ∀ i, i < n → (f i = none ↔ g i = none)) : (sel n f).length = (sel n g).length :=
  Nat.le_antisymm (sel_le fun i hi q z => q ((h i hi).mpr z)) (sel_le fun i hi q z => q ((h i hi).mp z))
/-- the lot of the hands that came is as long as many says -/
theorem came_len {rows : List Int} {S : Sd} (k : Ok rows S) {cm : List Int} (ha : cm.Pairwise (· < ·)) (hm : ∀ z : Int, z ∈ cm ↔ ∃ i : Nat, i < rows.length ∧ z = i ∧ S.cells.getD i none ≠ none) : cm.length = many S.cells := by
  have e : cm = sel S.cells.length fun j => if (S.cells.getD j none).isSome then some (j : Int) else none := by
    refine asc_eq ha (sel_asc _ _) fun z => ?_
    rw [hm z, mem_sel]
    constructor
    · rintro ⟨i, h1, h2, h3⟩
      refine ⟨i, by rw [k.lc]; exact h1, ?_⟩
      rw [if_pos (by cases q : S.cells.getD i none with
        | none => exact absurd q h3
        | some c => rfl), h2]
    · rintro ⟨i, h1, h2⟩
      refine ⟨i, by rw [← k.lc]; exact h1, ?_⟩
      split at h2
      · rename_i q
        refine ⟨(Option.some.inj h2).symm, fun z => ?_⟩
        rw [z] at q; cases q
      · cases h2
  rw [e]
  refine sel_len_eq fun i _ => ?_
  cases S.cells.getD i none <;> simp
/-! ### what is told -/
theorem told_form {rows : List Int} {S : Sd} (k : Ok rows S) (i : Nat) (hi : i < rows.length) :
    (S.told.getD i [] = [] ∧ S.states.getD i none ≠ none) ∨ ∃ w, S.told.getD i [] = [w] ∧ S.states.getD i none = none ∧ S.cells.getD i none = some (rows.getD i 0, w) ∧ 1 ≤ w ∧ w ≤ 2 * (many S.cells : Int) - 1 := by
  cases e : S.states.getD i none with
  | some st =>
    obtain ⟨w, b⟩ := st
    exact .inl ⟨(k.s2 i w b e).1, by simp⟩
  | none =>
    obtain ⟨w, h1, h2⟩ := k.s3 i hi e
    obtain ⟨_, h3, h4⟩ := k.c1 i _ w h2
    exact .inr ⟨w, h1, rfl, h2, h3, h4⟩
theorem told_came {rows : List Int} {S : Sd} (k : Ok rows S) {i : Nat} (hi : i < rows.length) (h : S.told.getD i [] ≠ []) : S.cells.getD i none ≠ none := by
  rcases told_form k i hi with ⟨q, _⟩ | ⟨w, _, _, q, _⟩
  · exact absurd q h
  · rw [q]; simp
theorem sel_nodup {β : Type} {f : Nat → Option β} : ∀ {n : Nat}, (∀ i j y, i < n → j < n → i ≠ j → f i = some y → f j ≠ some y) → (sel n f).Nodup
  | 0, _ => List.Pairwise.nil
  | n + 1, h => by
    rw [sel_succ, List.nodup_append]
    refine ⟨sel_nodup fun i j y hi hj => h i j y (by omega) (by omega), ?_, fun a ha b hb e => ?_⟩
    · cases f n <;> simp
    · subst e
      obtain ⟨i, hi, e1⟩ := mem_sel.mp ha
      have e2 : f n = some a := by
        cases q : f n with
        | none => rw [q] at hb; simp at hb
        | some z => rw [q] at hb; simp at hb; rw [hb]
      exact h i n a (by omega) (by omega) (by omega) e1 e2
theorem flat_sel : ∀ (l : List (List Int)), (∀ i, i < l.length → (l.getD i []).length ≤ 1) → l.flatten = sel l.length fun i => (l.getD i []).head? := by
  refine snoc_ind (fun _ => rfl) fun l a ih h => ?_
  have e1 : ∀ i, i < l.length → (l ++ [a]).getD i [] = l.getD i [] := fun i hi => by
    simp only [List.getD_eq_getElem?_getD]
    rw [List.getElem?_append_left hi]
  have e2 : (l ++ [a]).getD l.length [] = a := by
    simp [List.getD_eq_getElem?_getD]
  rw [List.flatten_append, List.length_append, List.length_singleton, sel_succ, ih fun i hi => by rw [← e1 i hi]; exact h i (by rw [List.length_append, List.length_singleton]; omega)]
  congr 1
  · exact sel_congr fun i hi => by rw [e1 i hi]
  · rw [e2]
    have ha : a.length ≤ 1 := by
      have := h l.length (by rw [List.length_append, List.length_singleton]; omega)
      rwa [e2] at this
    cases a with
    | nil => rfl
    | cons x r =>
      cases r with
      | nil => rfl
      | cons y r => simp at ha
theorem told_sel {rows : List Int} {S : Sd} (k : Ok rows S) : S.told.flatten = sel rows.length fun i => (S.told.getD i []).head? := by
  rw [flat_sel S.told fun i hi => ?_, k.lt]
  rcases told_form k i (by rw [← k.lt]; exact hi) with ⟨q, _⟩ | ⟨w, q, _⟩
  · rw [q]; simp
  · rw [q]; simp
theorem told_nodup {rows : List Int} {S : Sd} (k : Ok rows S) : S.told.flatten.Nodup := by
  rw [told_sel k]
  refine sel_nodup fun i j y hi hj ne e1 e2 => ?_
  rcases told_form k i hi with ⟨q, _⟩ | ⟨w, q, s, _⟩
  · rw [q] at e1; cases e1
  · rw [q] at e1
    rcases told_form k j hj with ⟨q', _⟩ | ⟨w', q', s', _⟩
    · rw [q'] at e2; cases e2
    · rw [q'] at e2
      have a1 : w = y := by simpa using e1
      have a2 : w' = y := by simpa using e2
      subst a1
      subst a2
      exact k.un i j w' hi hj ne s s' q q'
theorem told_bound {rows : List Int} {S : Sd} (k : Ok rows S) : ∀ w ∈ S.told.flatten, 1 ≤ w ∧ w ≤ 2 * (many S.cells : Int) - 1 := fun w hw => by
  rw [told_sel k] at hw
  obtain ⟨i, hi, e⟩ := mem_sel.mp hw
  rcases told_form k i hi with ⟨q, _⟩ | ⟨v, q, _, _, h1, h2⟩
  · rw [q] at e; cases e
  · rw [q] at e
    have : v = w := by simpa using e
    subst this
    exact ⟨h1, h2⟩
/-! ### who is left -/
def left (S : Sd) : List Nat := sel S.states.length fun j => if S.states.getD j none = none then none else some j
theorem mem_left {S : Sd} {h : Nat} : h ∈ left S ↔ S.states.getD h none ≠ none := by
  unfold left
  rw [mem_sel]
  constructor
  · rintro ⟨i, hi, e⟩
    split at e
    · cases e
    · rename_i q
      have : i = h := by simpa using e
      rw [← this]; exact q
  · intro q
    refine ⟨h, ?_, if_neg q⟩
    by_cases hl : h < S.states.length
    · exact hl
    · exact absurd (gd_out _ _ _ (by omega)) q
theorem left_lt {rows : List Int} {S : Sd} (k : Ok rows S) {h : Nat} (hm : h ∈ left S) : h < rows.length := by
  rw [mem_left] at hm
  cases e : S.states.getD h none with
  | none => exact absurd e hm
  | some st => rw [← k.ls]; exact lt_of_state e
theorem left_len {rows : List Int} {S : Sd} (k : Ok rows S) : (left S).length ≤ rows.length := by
  rw [← k.ls]; exact sel_len _ _
/-! ### a hand alone -/
def cost (S : Sd) (h : Nat) : Nat := match S.states.getD h none with
  | none => 0
  | some (w, true) => if w ∈ taken S.cells h then 3 else 1
  | some (w, false) => if w ∈ taken S.cells h then 4 else 2
theorem cost_le (S : Sd) (h : Nat) : cost S h ≤ 4 := by
  unfold cost
  split
  · omega
  · split <;> omega
  · split <;> omega
theorem cost_zero {S : Sd} {h : Nat} (e : cost S h = 0) : S.states.getD h none = none := by
  unfold cost at e
  split at e
  · rename_i q; exact q
  · split at e <;> omega
  · split at e <;> omega
theorem taken_set (cells : List Cell) (h : Nat) (c : Cell) (hh : h < cells.length) : taken (cells.set h c) h = taken cells h := by
  unfold taken
  rw [List.length_set]
  refine sel_congr fun i hi => ?_
  rw [gd_set _ _ _ _ _ hh]
  by_cases q : i = h
  · rw [if_pos q, if_pos q]
  · rw [if_neg q, if_neg q, if_neg q]
theorem moved_states {rows : List Int} {S : Sd} (h : Nat) {i : Nat} (ne : i ≠ h) (hs : h < S.states.length) : (moved rows S h).states.getD i none = S.states.getD i none := by
  cases est : S.states.getD h none with
  | none => unfold moved; rw [est]
  | some st =>
    obtain ⟨w, b⟩ := st
    cases b with
    | false => rw [moved_put est]; exact (gd_set _ _ _ _ _ hs).trans (if_neg ne)
    | true =>
      by_cases q : w ∈ taken S.cells h
      · rw [moved_clash est q]; exact (gd_set _ _ _ _ _ hs).trans (if_neg ne)
      · rw [moved_tell est q]; exact (gd_set _ _ _ _ _ hs).trans (if_neg ne)
theorem cost_moved {rows : List Int} {S : Sd} (k : Ok rows S) {h : Nat} (hs : S.states.getD h none ≠ none) : cost (moved rows S h) h + 1 ≤ cost S h := by
  cases est : S.states.getD h none with
  | none => exact absurd est hs
  | some st =>
    obtain ⟨w, b⟩ := st
    have hls := lt_of_state est
    have hcl : h < S.cells.length := by rw [k.lc, ← k.ls]; exact hls
    cases b with
    | false =>
      have e1 : cost S h = if w ∈ taken S.cells h then 4 else 2 := by unfold cost; rw [est]
      have e2 : cost (moved rows S h) h = if w ∈ taken S.cells h then 3 else 1 := by
        rw [moved_put est]
        unfold cost
        dsimp only
        rw [gd_set _ _ _ _ _ hls, if_pos rfl, taken_set _ _ _ hcl]
      rw [e1, e2]
      split <;> omega
    | true =>
      have hc := k.s1 h w est
      by_cases q : w ∈ taken S.cells h
      · have e1 : cost S h = 3 := by unfold cost; rw [est]; exact if_pos q
        have e2 : cost (moved rows S h) h = 2 := by
          rw [moved_clash est q]
          unfold cost
          dsimp only
          rw [gd_set _ _ _ _ _ hls, if_pos rfl]
          exact if_neg (wish_out hc)
        omega
      · have e1 : cost S h = 1 := by unfold cost; rw [est]; exact if_neg q
        have e2 : cost (moved rows S h) h = 0 := by
          rw [moved_tell est q]
          unfold cost
          dsimp only
          rw [gd_set _ _ _ _ _ hls, if_pos rfl]
        omega
def soloStep (rows : List Int) (h : Nat) (p : Sd × Nat) : Sd × Nat := if p.1.states.getD h none = none then p else (moved rows p.1 h, p.2 + 1)
def soloN (rows : List Int) (h : Nat) : Nat → Sd × Nat → Sd × Nat
  | 0, p => p
  | n + 1, p => soloStep rows h (soloN rows h n p)
theorem solo_inv {rows : List Int} {W : List Nat} {h : Nat} (v : Valid rows W) (hh : h < rows.length) : ∀ n, 
    (soloN rows h n (runW rows W, 0)).1 = runW rows (W ++ List.replicate (soloN rows h n (runW rows W, 0)).2 h) ∧ Valid rows (W ++ List.replicate (soloN rows h n (runW rows W, 0)).2 h) ∧
    (soloN rows h n (runW rows W, 0)).2 ≤ n ∧ (cost (soloN rows h n (runW rows W, 0)).1 h ≤ 4 - n)
  | 0 => ⟨by simp [soloN], by simpa [soloN] using v, Nat.le_refl _, cost_le _ _⟩
  | n + 1 => by
    obtain ⟨h1, h2, h3, h4⟩ := solo_inv v hh n
    show (soloStep rows h (soloN rows h n (runW rows W, 0))).1 = runW rows (W ++ List.replicate (soloStep rows h (soloN rows h n (runW rows W, 0))).2 h) ∧ Valid rows (W ++ List.replicate (soloStep rows h (soloN rows h n (runW rows W, 0))).2 h) ∧
      (soloStep rows h (soloN rows h n (runW rows W, 0))).2 ≤ n + 1 ∧ cost (soloStep rows h (soloN rows h n (runW rows W, 0))).1 h ≤ 4 - (n + 1)
    generalize soloN rows h n (runW rows W, 0) = p at h1 h2 h3 h4
    obtain ⟨S, m⟩ := p
    dsimp only at h1 h2 h3 h4
    by_cases q : S.states.getD h none = none
    · have e : soloStep rows h (S, m) = (S, m) := if_pos q
      have c0 : cost S h = 0 := by unfold cost; rw [q]
      rw [e]
      exact ⟨h1, h2, by dsimp only; omega, by dsimp only; omega⟩
    · have e : soloStep rows h (S, m) = (moved rows S h, m + 1) := if_neg q
      have er : W ++ List.replicate (m + 1) h = (W ++ List.replicate m h) ++ [h] := by
        rw [List.replicate_succ', List.append_assoc]
      have kS : Ok rows S := by rw [h1]; exact runW_ok _ _
      rw [e]
      refine ⟨?_, ?_, by dsimp only; omega, ?_⟩
      · dsimp only
        rw [er, runW_snoc, ← h1]
      · dsimp only
        rw [er]
        exact valid_snoc h2 hh (by rw [← h1]; exact q)
      · have := cost_moved kS q
        dsimp only
        omega
/-- who alone does steps is over behind at most four of them -/
theorem solo_over {rows : List Int} {W : List Nat} {h : Nat} (v : Valid rows W) (hh : h < rows.length) : (soloN rows h 4 (runW rows W, 0)).1.states.getD h none = none :=
  cost_zero (by have := (solo_inv v hh 4).2.2.2; omega)
/-! ### whole weavings -/
def outStep (rows : List Int) (p : List Nat × Sd) : List Nat × Sd := match left p.2 with
  | [] => p
  | h :: _ => (p.1 ++ [h], moved rows p.2 h)
def outN (rows : List Int) : Nat → List Nat × Sd → List Nat × Sd
  | 0, p => p
  | n + 1, p => outStep rows (outN rows n p)
theorem outStep_nil {rows : List Int} {p : List Nat × Sd} (e : left p.2 = []) : outStep rows p = p := by unfold outStep; rw [e]
theorem outStep_cons {rows : List Int} {p : List Nat × Sd} {h : Nat} {r : List Nat} (e : left p.2 = h :: r) : outStep rows p = (p.1 ++ [h], moved rows p.2 h) := by unfold outStep; rw [e]
def left_cost (S : Sd) : Nat := match left S with
  | [] => 0
  | h :: r => cost S h + 4 * r.length
theorem left_cost_le {rows : List Int} {S : Sd} (k : Ok rows S) (h5 : rows.length ≤ 5) : left_cost S ≤ 20 := by
  have h1 := left_len k
  unfold left_cost
  split
  · omega
  · rename_i h r e
    have := cost_le S h
    rw [e, List.length_cons] at h1
    omega
theorem left_moved {rows : List Int} {S : Sd} (k : Ok rows S) {h : Nat} {r : List Nat} (e : left S = h :: r) : left_cost (moved rows S h) + 1 ≤ left_cost S := by
  have hm : S.states.getD h none ≠ none := mem_left.mp (by rw [e]; exact List.mem_cons_self)
  have hls : h < S.states.length := by rw [k.ls]; exact left_lt k (by rw [e]; exact List.mem_cons_self)
  have hc := cost_moved k hm
  have k' := k.moved h
  have e0 : left_cost S = cost S h + 4 * r.length := by unfold left_cost; rw [e]
  have hl : (moved rows S h).states.length = S.states.length := by rw [k'.ls, k.ls]
  have hsame : ∀ i, i ≠ h → (moved rows S h).states.getD i none = S.states.getD i none := fun i ne => moved_states h ne hls
  by_cases q : (moved rows S h).states.getD h none = none
  · -- over: the rest is left
    have hlen : (left (moved rows S h)).length + 1 ≤ (left S).length := by
      unfold left
      rw [hl]
      refine sel_lt (k := h) (fun i hi z => ?_) hls (if_pos q) (by rw [if_neg hm]; simp)
      intro y
      apply z
      by_cases ei : i = h
      · rw [ei]; exact if_pos q
      · rw [hsame i ei]; exact y
    rw [e, List.length_cons] at hlen
    rw [e0]
    have hpos : 1 ≤ cost S h := by omega
    unfold left_cost
    split
    · omega
    · rename_i h' r' e'
      have := cost_le (moved rows S h) h'
      rw [e', List.length_cons] at hlen
      omega
  · have hleft : left (moved rows S h) = left S := by
      unfold left
      rw [hl]
      refine sel_congr fun i hi => ?_
      by_cases ei : i = h
      · rw [ei, if_neg q, if_neg hm]
      · rw [hsame i ei]
    have e1 : left_cost (moved rows S h) = cost (moved rows S h) h + 4 * r.length := by unfold left_cost; rw [hleft, e]
    omega
theorem out_inv {rows : List Int} {W : List Nat} (v : Valid rows W) : ∀ n, (outN rows n (W, runW rows W)).2 = runW rows (outN rows n (W, runW rows W)).1 ∧ Valid rows (outN rows n (W, runW rows W)).1 ∧
    (outN rows n (W, runW rows W)).1.length ≤ W.length + n ∧ (left_cost (outN rows n (W, runW rows W)).2 ≤ left_cost (runW rows W) - n)
  | 0 => ⟨rfl, v, Nat.le_refl _, Nat.le_refl _⟩
  | n + 1 => by
    obtain ⟨h1, h2, h3, h4⟩ := out_inv v n
    show (outStep rows _).2 = runW rows (outStep rows _).1 ∧ Valid rows (outStep rows _).1 ∧ (outStep rows _).1.length ≤ _ ∧ left_cost (outStep rows _).2 ≤ _
    generalize outN rows n (W, runW rows W) = p at h1 h2 h3 h4
    obtain ⟨U, S⟩ := p
    dsimp only at h1 h2 h3 h4
    have kS : Ok rows S := by rw [h1]; exact runW_ok _ _
    cases e : left S with
    | nil =>
      rw [outStep_nil (p := (U, S)) e]
      refine ⟨h1, h2, by dsimp only; omega, ?_⟩
      have : left_cost S = 0 := by unfold left_cost; rw [e]
      dsimp only; omega
    | cons h r =>
      rw [outStep_cons (p := (U, S)) e]
      have hm : h ∈ left S := by rw [e]; exact List.mem_cons_self
      refine ⟨?_, ?_, ?_, ?_⟩
      · dsimp only; rw [runW_snoc, ← h1]
      · exact valid_snoc h2 (left_lt kS hm) (by rw [← h1]; exact mem_left.mp hm)
      · dsimp only; rw [List.length_append, List.length_singleton]; omega
      · have := left_moved kS e
        dsimp only; omega
theorem left_nil_of {S : Sd} (e : left_cost S = 0) {rows : List Int} (k : Ok rows S) : left S = [] := by
  cases q : left S with
  | nil => rfl
  | cons h r =>
    have hm : S.states.getD h none ≠ none := mem_left.mp (by rw [q]; exact List.mem_cons_self)
    have h1 := cost_moved k hm
    unfold left_cost at e
    rw [q] at e
    dsimp only at e
    omega
theorem out_left {rows : List Int} {W : List Nat} (v : Valid rows W) (h5 : rows.length ≤ 5) {n : Nat} (hn : 20 ≤ n) : left (outN rows n (W, runW rows W)).2 = [] := by
  obtain ⟨h1, h2, h3, h4⟩ := out_inv v n
  have h6 := left_cost_le (runW_ok rows W) h5
  exact left_nil_of (by omega) (rows := rows) (by rw [h1]; exact runW_ok _ _)
theorem out_stay {rows : List Int} {p : List Nat × Sd} {j : Nat} (e : left (outN rows j p).2 = []) : ∀ d, outN rows (j + d) p = outN rows j p
  | 0 => rfl
  | d + 1 => by
    show outStep rows (outN rows (j + d) p) = _
    rw [out_stay e d, outStep_nil e]
theorem out_same {rows : List Int} {p : List Nat × Sd} {i j : Nat} (hi : left (outN rows i p).2 = []) (hj : left (outN rows j p).2 = []) : outN rows i p = outN rows j p := by
  rcases Nat.le_total i j with h | h
  · have := out_stay hi (j - i)
    rw [show i + (j - i) = j by omega] at this
    exact this.symm
  · have := out_stay hj (i - j)
    rw [show j + (i - j) = i by omega] at this
    exact this
/-- when none is left, each tells one -/
theorem all_told {rows : List Int} {S : Sd} (k : Ok rows S) (e : left S = []) : ∀ i, i < rows.length → (S.told.getD i []).length = 1 := fun i hi => by
  rcases told_form k i hi with ⟨_, q⟩ | ⟨w, q, _⟩
  · have := mem_left.mpr q
    rw [e] at this
    simp at this
  · rw [q]; rfl
end Nm


set_option Elab.async false
set_option linter.all false
set_option maxRecDepth 100000
set_option maxHeartbeats 4000000
namespace Nm
open PySem PySem.Spec PyProof.Rows L2
/-! ### the text by places -/
def top (i : Nat) : Stmt := PySem.Challenge.pw_onepicture_k13_whole_new_names.main.body.getD i (.Pass ⟨0, 0, 0, 0⟩)
/-! ### a def as it stands, a def as it may be called -/
structure At (K : PySem.W.Frag) (mg : Str → Option Value) (x : Str) (st : Stmt) (ps : List Str) : Prop where
  ex : ∃ (f : Addr) (fd : FuncData), FunD K x x (defArgs st) (defBody st) (defScope st) [] [] f fd ∧ mg x = some (.ref f) ∧ Binds K fd ps []
structure Cl (P : Program) (w : World) (K : PySem.W.Frag) (mg : Str → Option Value) (base : Heap) (k : Nat) (x : Str) (ps : List Str) (sp : Sp) : Prop where
  ex : ∃ (f : Addr) (fd : FuncData), FnOk P w K mg base CX0 k f fd ps sp ∧ mg x = some (.ref f) ∧ PySem.W.keepIn K (.ref f) = true ∧ Binds K fd ps []
section
variable {P : Program} {w : World} {K : PySem.W.Frag} {mg : Str → Option Value} {base : Heap}
theorem At.cl {x : Str} {st : Stmt} {N ps : List Str} {k : Nat} {sp : Sp} (a : At K mg x st ps) (S : FnScope N ps (defScope st)) (len : ∀ vs H Q E, sp vs H Q E → vs.length = ps.length)
    (hbody : ∀ (f : Addr) (cdv : Value) (A : Around) (outer : List Env) (s : Shared) (H : Hp) (vs : List V) (Q : VK) (E : XK), Room k (A.deeper (envOfC x (defScope st) s.heap.objs.size f cdv)) → sp vs H Q E →
      ∃ t, PSs (cxOf CX0 P w K mg base N x (defScope st) f cdv A outer s H E).nox (defBody st) t ∧ t { nx := fun _ H' => Q .non H', rt := Q } (start N vs) H) : Cl P w K mg base (k + 1) x ps sp := by
  obtain ⟨f, fd, F, hm, hb⟩ := a.ex
  refine ⟨f, fd, F.ok S len fun cdv A outer s H vs Q E hr hsp => ?_, hm, F.kp, hb⟩
  obtain ⟨t, h, q⟩ := hbody f cdv A outer s H vs Q E hr hsp
  exact ⟨t, h.nox, q⟩
theorem Cl.imp {k : Nat} {x : Str} {ps : List Str} {sp sp' : Sp} (c : Cl P w K mg base k x ps sp) (h : ∀ vs H Q E, sp' vs H Q E → sp vs H Q E) : Cl P w K mg base k x ps sp' := by
  obtain ⟨f, fd, F, a, b, d⟩ := c.ex
  exact ⟨f, fd, F.imp h, a, b, d⟩
/-- a def that is never called so -/
theorem At.never {x : Str} {st : Stmt} {ps : List Str} (a : At K mg x st ps) (k : Nat) : Cl P w K mg base k x ps (fun _ _ _ _ => False) := by
  obtain ⟨f, fd, F, hm, hb⟩ := a.ex
  exact ⟨f, fd, ⟨fun _ _ _ _ h => h.elim, fun _ _ _ _ _ _ _ _ _ _ _ _ _ h => h.elim⟩, hm, F.kp, hb⟩
end
section
variable {X : Cx}
/-- f(e, ..), f a def of the text -/
theorem pe_cl {j k : Nat} {x : Str} {ps : List Str} {sp : Sp} {p pos : Pos} {e : Expr} {es : List Expr} {t : TA} (c : Cl X.prog X.w X.K X.mg X.base k x ps sp) (hr : Room j X.A) (hk : k ≤ j) (hg : Gl X x) (ha : PA X (e :: es) t)
    (hdb : (x == ("__debug__" : Str)) = false := by decide) (he : starEach (e :: es) X.env = (false, eval e X.env) :: starEach es X.env := by rfl) (hpl : (backTo pos (starEach es X.env)).any (·.1) = false := by rfl) :
    PE X (.Call (.Name x p) (e :: es) [] pos) (tCall sp [] E0 t) := by
  obtain ⟨f, fd, F, hm, hkp, hb⟩ := c.ex
  exact pe_call F (hr.mono hk) hg hm hkp hb .nil (fun _ _ _ _ _ _ _ h => h.elim) ha hdb he hpl
/-- a constant of the module -/
theorem pe_gl {x : Str} {pos : Pos} {v : V} (hg : Gl X x) (h : ∃ u, X.mg x = some u ∧ RelV v u) (hdb : (x == ("__debug__" : Str)) = false := by decide) : PE X (.Name x pos) (tC v) := by
  obtain ⟨u, h1, h2⟩ := h
  exact pe_glob hg h1 h2 hdb
/-- an expression that is never reached -/
theorem pe_never {e : Expr} : PE X e (fun _ _ _ => False) := ⟨fun _ _ _ _ _ _ h => h.elim⟩
theorem pt_never {e : Expr} : PT X e (fun _ _ _ => False) := ⟨fun _ _ _ _ _ _ h => h.elim⟩
end
end Nm


set_option Elab.async false
set_option linter.all false
set_option maxRecDepth 100000
set_option maxHeartbeats 4000000
namespace Nm
open PySem PySem.Spec PyProof.Rows L2
/-! ### enumerate(t), t a tuple -/
theorem meets_enumT {v : Value} {o : Obj} {Hh : Heap → Prop} (B : Begins v o Hh) :
    Meets (Builtin.«enumerate.__new__» ⟨[.type "enumerate", v], []⟩) (fun _ R s => Hh s.heap ∧
      R (.ok (.ret (.ref (s.heap.push o).objs.size))) { s with heap := (s.heap.push o).push { cls := .type "enumerate", data := .fields #[.none, .bool false, .ref s.heap.objs.size, rawInt 0, .none, .none] } }) :=
  .of_wp fun prog w A R s hyp => by
    obtain ⟨hp, ge, dr, tk, os⟩ := s
    obtain ⟨hv, hR⟩ := hyp
    have sub := sub_enumerate
    have it1 : ∀ {A1 : Around} {E1 : Value → Shared → Prop} {Q1 : Value → Shared → Prop}, Q1 (.ref hp.objs.size) ⟨hp.push o, ge, dr, tk, os⟩ → wpAny (model prog w) A1 (pyIter v) Q1 E1 ⟨hp, ge, dr, tk, os⟩ :=
      fun z => B.iter prog w _ _ ⟨hp, ge, dr, tk, os⟩ _ hv z
    wp_walk using it1
    refine wpAny_stack_any fun st => wpAny_pure ?_
    split
    · rename_i cc _ _ _ _ _
      cases (cc == Value.type "enumerate") <;> (wp_walk using it1; exact ⟨_, rfl, hR⟩)
    · wp_walk using it1; exact ⟨_, rfl, hR⟩
theorem call_enumT {prog : Program} {w : World} {A : Around} {E : Value → Shared → Prop} {s : Shared} {v : Value} {o : Obj} {Hh : Heap → Prop} {Q : Value → Shared → Prop} (B : Begins v o Hh) (hv : Hh s.heap)
    (k : ∀ h', IsEnum h' (s.heap.objs.size + 1) s.heap.objs.size 0 .none → h'.get? s.heap.objs.size = some o → (∀ b u, s.heap.get? b = some u → h'.get? b = some u) → Q (.ref (s.heap.objs.size + 1)) { s with heap := h' }) :
    wpAny (model prog w) A (call (.type "enumerate") [v]) Q E s := by
  refine callType_new F.called_enumerate (by decide) (F.typeCall_enumerate_1 _) (F.newCall_enumerate_1 _) (fun ob => F.args_object_init_2 ob _) F.entry_enumerate_new (meets_enumT B) ⟨hv, ?_⟩
  have sz : (s.heap.push o).objs.size = s.heap.objs.size + 1 := Heap.size_push ..
  show _ ∧ _
  rw [sz]
  have en : IsEnum ((s.heap.push o).push { cls := .type "enumerate", data := .fields #[.none, .bool false, .ref s.heap.objs.size, rawInt 0, .none, .none] }) (s.heap.objs.size + 1) s.heap.objs.size 0 .none := by
    have z := Heap.get?_push_size (s.heap.push o) (o := { cls := .type "enumerate", data := .fields #[.none, .bool false, .ref s.heap.objs.size, rawInt 0, .none, .none] }) rfl
    rwa [sz] at z
  exact ⟨⟨_, en, rfl⟩, k _ en (Heap.get?_push_of_some _ (Heap.get?_push_size _ B.free)) fun b u x => Heap.get?_push_of_some _ (Heap.get?_push_of_some _ x)⟩
/-- the tuple at a, each item in a new pair with its number -/
def IteT (K : PySem.W.Frag) (a : Addr) : It :=
  ⟨fun i H => ∃ (xs : List V) (x : V), SqT K H a xs ∧ xs[i]? = some x,
   fun i H v H' => ∃ T x, v = .ref T ∧ H T = none ∧ H' = upd H T (.tup [.int (i : Nat), x]) ∧ ∀ xs, SqT K H a xs → xs[i]? = some x,
   fun i H => ∃ xs : List V, SqT K H a xs ∧ xs.length ≤ i⟩
theorem turn_enumT {P : Program} {w : World} {K : PySem.W.Frag} {elts : List Expr} {kk : Nat} {tpos : Pos} (a e it : Addr) :
    Turn P w K (.Tuple elts kk tpos) (IteT K a) [e, it] e (fun i h => (∃ old, IsEnum h e it ((i : Nat) : Int) old) ∧ h.IsTupleIter it a i ∧ e ≠ it ∧ a ≠ it ∧ e ≠ a) where
  mem := by simp
  obj := fun i h st b hb => by
    obtain ⟨⟨old, he⟩, ⟨o, ho, hc, hd⟩, _⟩ := st
    rcases (show b = e ∨ b = it by simpa using hb) with z | z
    · subst z; exact ⟨_, he, fun v q => nomatch q⟩
    · subst z; exact ⟨o, ho, fun v q => by rw [hd] at q; cases q⟩
  keep := fun i h h' st k => let ⟨⟨old, he⟩, hi, n1, n2, n3⟩ := st; ⟨⟨old, k e (by simp) _ he⟩, hi.at fun o q => k it (by simp) o q, n1, n2, n3⟩
  item := by
    intro X hP hw hK hc i pins s σ H E I hf st hg
    subst hP hw hK
    obtain ⟨⟨old, he⟩, hit, n1, n2, n3⟩ := st
    obtain ⟨xs, x, hq, hx⟩ := hg
    obtain ⟨its, rv, p, hz⟩ := I.tuple hq
    obtain ⟨u, hu, ru⟩ := rv.get hx
    have hel : e < s.heap.objs.size := Heap.lt_size he
    have hil : it < s.heap.objs.size := by obtain ⟨_, q, _⟩ := hit; exact Heap.lt_size q
    have pT : s.heap.IsTuple a its.toArray := p
    have hlt : i < its.toArray.size := by
      have := (List.getElem?_eq_some_iff.mp hu).1
      simpa using this
    have D := Draws.tuple (prog := X.prog) (w := X.w) (A := X.A.in1) (show X.A.in1.handled = none from I.ok.hd hc) it a n2 its.toArray
    refine wpAny_pyNext_enum_itemD D he ⟨hit, pT⟩ hlt n1 (by simp only [List.mem_cons, List.not_mem_nil, or_false, not_or]; exact ⟨n1, n3⟩) fun y h' tk hy ho hit' hT hsz hk => ?_
    have ey : y = u := by
      have hy' : its.toArray[i]? = some y := hy
      have hu' : its.toArray[i]? = some u := by simpa using hu
      exact Option.some.inj (hy'.symm.trans hu')
    subst ey
    refine ⟨_, rfl, wpAny_letOwnedTupleGo_enum (s := { s with heap := h', toks := tk + 1 }) ho fun h'' he' sb => ?_⟩
    have hT2 : h''.get? s.heap.objs.size = some { cls := .type "tuple", data := .seq #[.int i tk, y] } := (sb.2 _ (Nat.ne_of_gt hel)).trans hT
    have new : ObjOk X.prog X.w (upd H s.heap.objs.size (.tup [.int (i : Nat), x])) h'' s.heap.objs.size (.tup [.int (i : Nat), x]) :=
      ⟨by show 2 ≤ sizeLine; decide, [.int i tk, y], .cons ⟨_, rfl⟩ (.cons ru .nil), ⟨_, hT2, rfl, _, rfl⟩⟩
    have J : Inv X pins σ (upd H s.heap.objs.size (.tup [.int (i : Nat), x])) { s with heap := h'', toks := tk + 1 } :=
      I.turnedNew (ch := [e, it]) (fun b ob hb q => (sb.2 b (fun z => hb (by simp [z]))).trans (hk b ob (fun z => hb (by simp [z])) (fun z => hb (by simp [z])) q)) hf (Nat.le_refl _) new
    refine ⟨.ref s.heap.objs.size, _, J, rfl, ⟨_, x, rfl, I.hok.fresh (Nat.le_refl _), rfl, fun ys hy2 => by rw [I.tuple_inj hy2 hq]; exact hx⟩, ⟨⟨y, ?_⟩, hit'.1.at fun o q => (sb.2 it (Ne.symm n1)).trans q, n1, n2, n3⟩, fun b hb => ?_⟩
    · rw [show ((i + 1 : Nat) : Int) = (i : Int) + 1 by omega]; exact he'
    · have hb' : b < s.heap.objs.size := by
        rcases (show b = e ∨ b = it by simpa using hb) with z | z
        · rw [z]; exact hel
        · rw [z]; exact hil
      rw [upd_ne (Nat.ne_of_lt hb')]
      exact (hf b hb).1
  done := by
    intro X hP hw hK hc i pins s σ H E I hf st hg
    subst hP hw hK
    obtain ⟨⟨old, he⟩, hit, n1, n2, n3⟩ := st
    obtain ⟨xs, hq, hx⟩ := hg
    obtain ⟨its, rv, p, hz⟩ := I.tuple hq
    obtain ⟨f0, f1, f2, f3, f4, f5⟩ := hf it (by simp)
    have hl := rv.length
    have pT : s.heap.IsTuple a its.toArray := p
    have hT : s.TypeIs (.ref e) "enumerate" := ⟨_, he, rfl⟩
    have hi : its.toArray[i]? = none := by simp; omega
    unfold pyNext
    refine wpAny_bind (wpAny_attempt (wpAny_callSpecial?_slot (name := Str.ofString "__next__") hT F.slot_enumerate_next (wpAny_call_entry F.slot_enumerate_next hT F.entry_enumerate_next ?_ (F.args_enumerate_next_1 _))))
    show wpAny _ _ (field (.ref e) 2 >>= _) _ _ _
    refine wpAny_bind (wpAny_field he rfl (x := .ref it) rfl ?_)
    refine wpAny_bind (wpAny_nextOf_tuple_end (show X.A.in1.handled = none from I.ok.hd hc) hit pT hi fun h' x eb hx' => ?_)
    obtain ⟨ob, ho, hcl⟩ := hx'
    refine wpAny_bind (wpAny_isInstance (T := "StopIteration") (b := true) ⟨ob, ho, hcl⟩ isSubtype_stop ?_)
    exact wpAny_pure ⟨rfl, I.turned (t' := s.toks) (fun b o hb q => eb b o hb q) f0 f1 f3 f4 f5⟩
  self := fun A i s Q E st h => let ⟨⟨_, he⟩, _⟩ := st; wpAny_pyIter_enum he h
def iEnumA (K : PySem.W.Frag) (ta : TA) : TI := fun σ H R => ta σ H fun vs H1 => ∃ a xs, vs = [.ref a] ∧ ((SqL K H1 a xs ∧ R (Ite K a) H1) ∨ (SqT K H1 a xs ∧ R (IteT K a) H1))
theorem pi_enumA {X : Cx} {e : Expr} {ta : TA} {p pos tpos : Pos} {elts : List Expr} {kk : Nat} (hg : Gl X "enumerate") (hm : X.mg "enumerate" = none) (ha : PA X [e] ta) (hs : starEach [e] X.env = [(false, eval e X.env)] := by rfl) :
    PI X (.Tuple elts kk tpos) (.Call (.Name "enumerate" p) [e] [] pos) (iEnumA X.K ta) := by
  refine ⟨fun pins s σ H R I h => Call_ (ld_blt I hg hm boot_enumerate (PyProof.Rows.callWith_type1 (thn (ha.run pos pins s σ H _ I h) fun us s1 ⟨vs, H1, I1, r1, q1⟩ => ?_) hs rfl))⟩
  obtain ⟨a, xs, rfl, q1⟩ := q1
  rw [Vals.ref1 r1]
  have fresh2 : ∀ b, b ∈ [s1.heap.objs.size + 1, s1.heap.objs.size] → FpOk X pins H1 b := fun b hb => by
    have hle : s1.heap.objs.size ≤ b := by
      rcases (show b = s1.heap.objs.size + 1 ∨ b = s1.heap.objs.size by simpa using hb) with z | z <;> omega
    exact I1.fpOk hle (I1.hok.fresh hle)
  rcases q1 with ⟨hq, q⟩ | ⟨hq, q⟩
  · obtain ⟨its, rv, p', hz⟩ := I1.list hq
    refine call_enumerate_list p'.isList fun h' he hit hsz hk => wpAny_pyIter_enum he ?_
    exact ⟨s1.heap.objs.size + 1, [s1.heap.objs.size + 1, s1.heap.objs.size], _, _, H1, rfl, I1.kept (t' := s1.toks) hk, turn_enum a (s1.heap.objs.size + 1) s1.heap.objs.size, ⟨⟨.none, he⟩, hit, Nat.succ_ne_self _⟩, fresh2, q⟩
  · obtain ⟨its, rv, p', hz⟩ := I1.tuple hq
    have pT : s1.heap.IsTuple a its.toArray := p'
    have hal : a < s1.heap.objs.size := by obtain ⟨_, z, _⟩ := pT; exact Heap.lt_size z
    refine call_enumT (begins_tuple a its.toArray) pT fun h' he hit hk => wpAny_pyIter_enum he ?_
    exact ⟨s1.heap.objs.size + 1, [s1.heap.objs.size + 1, s1.heap.objs.size], _, _, H1, rfl, I1.kept (t' := s1.toks) hk, turn_enumT a (s1.heap.objs.size + 1) s1.heap.objs.size,
      ⟨⟨.none, he⟩, ⟨_, hit, rfl, rfl⟩, Nat.succ_ne_self _, Nat.ne_of_lt hal, Nat.ne_of_gt (Nat.lt_succ_of_lt hal)⟩, fresh2, q⟩
theorem walk_enumT {K : PySem.W.Frag} {a : Addr} {xs : List V} : Walk (IteT K a) xs.length (fun H => SqT K H a xs) (YPair (fun i => some (.int (i : Nat))) (fun i => xs[i]?)) :=
  ⟨fun i _ hi q => ⟨xs, xs[i], q, by simp [hi]⟩, fun _ q => ⟨xs, q, Nat.le_refl _⟩, fun i H v H' _ q y => by
    obtain ⟨T, x, h1, h2, h3, h4⟩ := y
    exact ⟨T, .int (i : Nat), x, h1, h2, h3, rfl, h4 xs q⟩⟩
/-! ### t * n, n from 1 on -/
theorem tuple_mul1 (l : Addr) (items : Array Value) (n : Nat) (dd : Option Addr) (sl : Array (Option Value)) (u : Tok) :
    Meets (Builtin.«tuple.__mul__» ⟨[.ref l, .int 1 u], []⟩) (fun _ R s => s.heap.get? l = some { cls := .type "tuple", dict := dd, data := .seq items n, slots := sl } ∧ R (.ok (.ret (Value.ref l))) s) :=
  .of_wp fun prog w A R s hyp => by
    obtain ⟨hp, ge, dr, tk, os⟩ := s
    obtain ⟨hl, hR⟩ := hyp
    have f1 := AutoSeq1.idx_int
    have c1 : (items.isEmpty || (1 : Int) == 1) = true := by simp
    wp_walk using AutoSeq1.wpAny_loadPart' hl
    repeat (first
      | (refine wpAny_ite_true (decide_eq_true c1) ?_; wp_walk using AutoSeq1.wpAny_loadPart' hl)
      | (refine wpAny_ite_true c1 ?_; wp_walk using AutoSeq1.wpAny_loadPart' hl))
    exact ⟨_, rfl, hR⟩
def rRepU (K : PySem.W.Frag) : R2 := fun x y H Q => ∃ l k xs, x = .ref l ∧ y = .int k ∧ SqT K H l xs ∧ xs ≠ [] ∧ 1 ≤ k ∧ k ≤ 1000 ∧ xs.length ≤ 1000 ∧ (k = 1 → Q (.ref l) H) ∧ (k ≠ 1 → ∀ p, H p = none → Q (.ref p) (upd H p (.tup (List.replicate k.toNat xs).flatten)))
section
variable {X : Cx}
theorem op_repU : OpR X (binaryOp .Mult) (rRepU X.K) := by
  intro pins s σ H x y v u Q I rx ry h
  obtain ⟨l, k, xs, rfl, rfl, hT, hne, h1, h2, hz, q1, q2⟩ := h
  by_cases hk : k = 1
  · subst hk
    cases rx
    obtain ⟨t, rfl⟩ := ry
    obtain ⟨its, r, ⟨⟨cls, dd, data, sl⟩, ho, hc, n, hd⟩, hs⟩ := I.tuple hT
    simp only at hc hd
    subst hc hd
    refine wpAny_binaryOp_repeat_ref (T := "tuple") (U := "int") (by decide) ⟨_, ho, rfl⟩ (fun s' => typeIs_int s' 1 t) noFill_tuple_mul F.fills_int_mul F.slot_int_rmul repeat_tuple F.slot_int_index.lookup ?_
    refine call_meets F.slot_int_rmul (typeIs_int s 1 t) F.entry_int_rmul (F.args_int_rmul_2 _ _) (int_rmul_tuple 1 t l its.toArray n dd sl) ⟨ho, rfl, ⟨_, ho, rfl⟩, ?_⟩
    exact call_meets F.slot_tuple_mul ⟨_, ho, rfl⟩ F.entry_tuple_mul (F.args_tuple_mul_2 _ _) (tuple_mul1 l its.toArray n dd sl t) ⟨ho, .ref l, H, I, rfl, q1 rfl⟩
  · exact op_repT pins s σ H _ _ v u Q I rx ry ⟨l, k, xs, rfl, rfl, hT, hne, by omega, h2, hz, q2 hk⟩
/-! ### l.extend(t), t a tuple -/
theorem extend_tup (l : Addr) (items : Array Value) (n : Nat) (b : Addr) (items2 : Array Value) (n2 : Nat) (dd : Option Addr) (sl : Array (Option Value)) (few : ¬(!items.isEmpty && Builtin.List.listTooLong (items.size + items2.size)) = true)
    (le1 : items.size ≤ sizeLine) (le2 : items.size + items2.size ≤ sizeLine + 1) :
    Meets (Builtin.«list.extend» ⟨[.ref l, .ref b], []⟩) (fun _ R s => s.heap.get? l = some { cls := .type "list", dict := none, data := .seq items n, slots := #[] } ∧ s.heap.get? b = some { cls := .type "tuple", dict := dd, data := .seq items2 n2, slots := sl } ∧
      R (.ok (.ret Value.none)) { s with heap := s.heap.update l (Obj.mapSeq fun x => x ++ items2), toks := s.toks }) :=
  .of_wp fun prog w A R s hyp => by
    obtain ⟨hp, ge, dr, tk, os⟩ := s
    obtain ⟨hl, hb, hR⟩ := hyp
    have f1 := AutoSeq1.idx_int
    have f2 := AutoSeq1.sub_tuple_tuple
    have f3 := AutoSeq1.sub_list_list
    have f4 := AutoSeq1.sub_tuple_list
    have f5 := AutoSeq1.sub_list_tuple
    have le3 : (items ++ items2).size ≤ sizeLine + 1 := by rw [Array.size_append]; exact le2
    wp_walk using (wpAny_updateSeq hl rfl (hz := le1) (_hz' := le3)), AutoSeq1.wpAny_loadPart' hl, AutoSeq1.wpAny_loadPart' hb
    exact ⟨_, rfl, hR⟩
def rExtendT (K : PySem.W.Frag) : V → List V → Hp → VK → Prop := fun x vs H Q => ∃ l b xs zs, x = .ref l ∧ vs = [.ref b] ∧ H l = some (.lst xs) ∧ SqT K H b zs ∧ xs.length + zs.length ≤ sizeLine ∧ Q .non (upd H l (.lst (xs ++ zs)))
theorem mt_extendT : MtR X "list.extend" (rExtendT X.K) := by
  intro pins s σ H x vs v us Q I rx rv h
  obtain ⟨l, b, xs, zs, rfl, rfl, hH, hB, hz, q⟩ := h
  cases rx
  rw [Vals.ref1 rv]
  obtain ⟨z, its, n, r, hl, e⟩ := I.lstM hH
  obtain ⟨its2, r2, ⟨⟨cls, dd, data, sl⟩, ho, hc, n2, hd⟩, hs⟩ := I.tuple hB
  simp only at hc hd
  subst hc hd
  have h2 := r2.length
  have sz : its.toArray.size + its2.toArray.size ≤ sizeLine := by rw [List.size_toArray, List.size_toArray]; omega
  have few : ¬ (!its.toArray.isEmpty && Builtin.List.listTooLong (its.toArray.size + its2.toArray.size)) = true := by
    rw [notLongL sz, Bool.and_false]; exact Bool.false_ne_true
  refine call_meets F.slot_list_extend ⟨_, e, rfl⟩ F.entry_list_extend (F.args_list_extend_2 _ _) (extend_tup l its.toArray n b its2.toArray n2 dd sl few (by rw [List.size_toArray]; omega) (by omega)) ⟨e, ho, ?_⟩
  exact ⟨.non, _, I.lset (its' := its ++ its2) hH e (by simp) (r.append r2) (by rw [List.length_append]; omega), rfl, q⟩
end
end Nm


set_option Elab.async false
set_option linter.all false
set_option maxRecDepth 100000
set_option maxHeartbeats 8000000
namespace Nm
open PySem PySem.Spec PyProof.Rows L2
/-! ### set(l), l a list of ints: what the layer has for tuples -/
/-- the set as it is made -/
abbrev newSet (w : World) : Obj := { cls := .type "set", dict := none, data := .set #[] 0 (.fresh 0 0 (!w.params.followText "set-order")) }
section
variable {P : Program} {w : World} {A : Around} {E : Value → Shared → Prop} {s : Shared}
set_option maxHeartbeats 16000000 in
theorem call_set_lst {l : Addr} {items : Array Value} (ns : List Int) {Q : Value → Shared → Prop} (hh : A.handled = none) (hl : s.heap.IsList l items) (hit : IntsAre items.toList ns) (hb : ns.length + 1 < scanBound)
    (fin : ∀ (h' : Heap) (tk c : Nat), SetR w h' s.heap.objs.size (fun j => decide (j ∈ ns)) c → c ≤ ns.length → (∀ b o, s.heap.get? b = some o → h'.get? b = some o) → Q (.ref s.heap.objs.size) { s with heap := h', toks := tk }) :
    wpAny (model P w) A (call (.type "set") [.ref l]) Q E s := by
  have nsz : items.size = ns.length := by
    have z := IntsAre.length hit
    rwa [Array.length_toList] at z
  obtain ⟨cc, tl, hmro⟩ := F.called_set.mro
  have w1 := F.called_set.made
  have w2 := F.called_set.sub
  refine wpAny_call (codeAny_of_tree ?_)
  show wpAny _ _ (callAny (.type "set") _) _ _ _
  refine wpAny_pure ⟨Code.quiet_builtin _ (by decide +kernel), codeAny_builtin F.entry_type_call ?_⟩
  rw [Around.under_plain (weight_type_call_type "set" [.ref l] []) rfl]
  have w3 := F.called_set.notType
  have w4 := F.called_set.canCreate
  have w5 := F.typeCall_set_1 (.ref l)
  repeat (any_goals (first | assumption | wp_step))
  refine codeAny_mono (code_set_led1 (.ref l) (E := E) (Q₁ := fun obj s₁ => obj = .ref s.heap.objs.size ∧ s₁ = { s with heap := s.heap.push (newSet w) }) ⟨rfl, rfl⟩) fun r s₁ hr => ?_
  cases r with
  | error e => exact hr
  | ok fl =>
    cases fl with
    | brk => exact hr.elim
    | next => exact hr.elim
    | cont => exact hr.elim
    | ret obj =>
      obtain ⟨rfl, rfl⟩ := hr
      have gS : (s.heap.push (newSet w)).get? s.heap.objs.size = some (newSet w) := Heap.get?_push_size _ rfl
      have tS : Shared.TypeIs { s with heap := s.heap.push (newSet w) } (.ref s.heap.objs.size) "set" := ⟨_, gS, rfl⟩
      have w6 := F.called_set.init.lookup
      have w7 := F.called_set.init.bind (.ref s.heap.objs.size)
      repeat (any_goals (first | assumption | wp_step))
      refine codeAny_mono (codeAny_call_builtin (R := wants (fun r s₂ => r = .none ∧ ∃ h' tk c, s₂ = { s with heap := h', toks := tk } ∧ SetR w h' s.heap.objs.size (fun j => decide (j ∈ ns)) c ∧ c ≤ ns.length ∧
          (∀ b o, s.heap.get? b = some o → h'.get? b = some o)) E) F.called_set.init.plain F.entry_set_init (check_set_init_1 tS ?_)) fun r₂ s₂ hr₂ => ?_
      · obtain ⟨⟨ocls, odict, odata, oslots⟩, hol, hcl, nl, hdl⟩ := hl
        simp only at hcl hdl
        subst hcl hdl
        have gl : (s.heap.push (newSet w)).get? l = some { cls := .type "list", dict := odict, data := .seq items nl, slots := oslots } := Heap.get?_push_of_some _ hol
        have k1 := F.sub_list_set
        have k2 := F.sub_list_frozenset
        have k3 : (Value.type "list" == Value.type "dict") = false := by decide
        have gL : (s.heap.push (newSet w)).IsList l items := ⟨_, gl, rfl, nl, rfl⟩
        unfold Builtin.«set.__init__» noKeywords Builtin.Frozenset.updateFrom
        generalize ePI : pyIter = PI
        wp_walk
        subst ePI
        refine wpAny_pyIter_list gL (wpAny_bind (wpAny_runValue ?_))
        have lS : l < s.heap.objs.size := Heap.lt_size hol
        have h3 : A.in1.in1.in1.handled = none := by simp [hh]
        have eI : (s.heap.push (newSet w)).objs.size = s.heap.objs.size + 1 := Heap.size_push ..
        have nI : l ≠ (s.heap.push (newSet w)).objs.size := by rw [eI]; exact Nat.ne_of_lt (Nat.lt_succ_of_lt lS)
        have nS : s.heap.objs.size ∉ [(s.heap.push (newSet w)).objs.size, l] := by
          rw [eI]; simp only [List.mem_cons, List.not_mem_nil, or_false, not_or]; exact ⟨Nat.ne_of_lt (Nat.lt_succ_self _), Nat.ne_of_gt lS⟩
        have vals : ∀ (i : Nat) (v : Value), items[i]? = some v → ∃ k t, ns[i]? = some k ∧ v = .int k t := fun i v hv => by
          have hi : i < ns.length := by rw [← nsz]; exact (Array.getElem?_eq_some_iff.mp hv).1
          obtain ⟨t, e⟩ := PyProof.Rows.IntsAre.int_at hit i v (by rw [Array.getElem?_toList]; exact hv)
          exact ⟨ns[i], t, List.getElem?_eq_getElem hi, by rw [e, List.getD_eq_getElem?_getD, List.getElem?_eq_getElem hi] <;> rfl⟩
        refine set_update_ints ((Walks.list h3 _ l nI items).toS) s.heap.objs.size nS ns nsz hb vals (items.size - 0) 0 _ (by omega) (Nat.zero_le _) ⟨⟨_, Heap.get?_push_size _ rfl, rfl, rfl⟩, gL.push _⟩ ?hS0 ?hR
        case hS0 => exact ⟨0, Nat.le_refl 0, setR_new_at (Heap.get?_push_of_some _ gS)⟩
        case hR =>
          intro s' c' hm hc' hS'
          obtain ⟨h', g2, d', tk', os'⟩ := s'
          obtain rfl : g2 = s.gens := hm.gens
          obtain rfl : d' = s.drawn := hm.drawn
          obtain rfl : os' = s.os := hm.os
          show wpAny _ _ _ _ _ _
          refine wpAny_pure ?_
          show wpAny _ _ (ret Value.none) _ _ _
          rw [nsz] at hc'
          refine wpAny_pure ⟨rfl, h', tk', c', rfl, hS', hc', fun b o e => ?_⟩
          have b0 : b < s.heap.objs.size := Heap.lt_size e
          refine hm.heap b o ?_ (Heap.get?_push_of_some _ (Heap.get?_push_of_some _ e))
          rw [eI]
          simp only [List.mem_cons, List.not_mem_nil, or_false, not_or]
          exact ⟨Nat.ne_of_lt b0, Nat.ne_of_lt (Nat.lt_succ_of_lt b0)⟩
      · cases r₂ with
        | error e => exact hr₂
        | ok fl₂ =>
          cases fl₂ with
          | brk => exact hr₂.elim
          | next => exact hr₂.elim
          | cont => exact hr₂.elim
          | ret r =>
            obtain ⟨rfl, h', tk, c', rfl, z1, z2, z3⟩ := hr₂
            repeat (any_goals (first | assumption | wp_step))
            exact fin _ _ _ z1 z2 z3
end
section
variable {X : Cx}
/-- set(x), x a list or a tuple of ints -/
def rSetA (K : PySem.W.Frag) (w : World) : List V → Hp → VK → Prop := fun vs H Q => ∃ (l : Addr) (ns : List Int), vs = [V.ref l] ∧ (SqL K H l (ns.map V.int) ∨ SqT K H l (ns.map V.int)) ∧ ns.length ≤ 1000 ∧
  ∀ p c, H p = none → c ≤ ns.length → Q (.ref p) (upd H p (SetO w p (fun j => decide (j ∈ ns)) c))
theorem set_any {pins : List (Addr × Obj)} {s : Shared} {σ : L2.St} {H : Hp} {l : Addr} {ns : List Int} {Q : Value → Shared → Prop} (hc : X.calm = true) (I : Inv X pins σ H s) (hq : SqL X.K H l (ns.map V.int) ∨ SqT X.K H l (ns.map V.int)) (hn : ns.length ≤ 1000)
    (fin : ∀ (h' : Heap) (tk c : Nat), SetR X.w h' s.heap.objs.size (fun j => decide (j ∈ ns)) c → c ≤ ns.length → (∀ b o, s.heap.get? b = some o → h'.get? b = some o) → Q (.ref s.heap.objs.size) { s with heap := h', toks := tk }) :
    wpAny (model X.prog X.w) X.A (call (.type "set") [.ref l]) Q X.xe s := by
  have hb : ns.length + 1 < scanBound := by unfold scanBound; omega
  rcases hq with hq | hq
  · obtain ⟨its, r, pl, hz⟩ := I.list hq
    exact call_set_lst ns (I.ok.hd hc) pl.isList (by simpa using ints_of_vals r) hb fin
  · obtain ⟨its, r, pl, hz⟩ := I.tuple hq
    exact call_set_tupI ns (I.ok.hd hc) (show s.heap.IsTuple l its.toArray from pl) (by simpa using ints_of_vals r) hb fin
theorem cr_setA (hc : X.calm = true) : CallR X (.type "set") (rSetA X.K X.w) := by
  intro pins s σ H vs us Q I r h
  obtain ⟨l, ns, rfl, hq, hn, q⟩ := h
  rw [Vals.ref1 r]
  refine set_any hc I hq hn fun h' tk c R hle hk => ?_
  exact ⟨.ref s.heap.objs.size, _, I.laid (t' := tk) hk (Nat.le_refl _) (setO_new R), rfl, q _ c (I.hok.fresh (Nat.le_refl _)) hle⟩
theorem nd_len : ∀ {a b : List Int}, a.Nodup → (∀ z ∈ a, z ∈ b) → a.length ≤ b.length
  | [], _, _, _ => Nat.zero_le _
  | x :: a, b, hn, hm => by
    obtain ⟨h1, h2⟩ := List.nodup_cons.mp hn
    have hx : x ∈ b := hm x List.mem_cons_self
    have ih := nd_len (b := b.erase x) h2 fun z hz => (List.mem_erase_of_ne (fun (e : z = x) => h1 (e ▸ hz))).mpr (hm z (List.mem_cons_of_mem _ hz))
    rw [List.length_erase_of_mem hx] at ih
    have : 0 < b.length := List.length_pos_of_mem hx
    rw [List.length_cons]
    omega
/-- len(set(x)), x a list or a tuple of unlike ints -/
def tLenSetA (K : PySem.W.Frag) (ta : TE) : TE := fun σ H Q => ta σ H fun x H1 => ∃ (l : Addr) (ns : List Int), x = .ref l ∧ (SqL K H1 l (ns.map V.int) ∨ SqT K H1 l (ns.map V.int)) ∧ ns.Nodup ∧ ns.length ≤ 1000 ∧ Q (.int (ns.length : Nat)) H1
theorem pe_lenSetA {a : Expr} {ta : TE} {p p2 q pos : Pos} (hg : Gl X "len") (hm : X.mg "len" = none) (hg2 : Gl X "set") (hm2 : X.mg "set" = none) (ha : PE X a ta) (hc : X.calm = true := by rfl)
    (na : starEach [a] X.env = (false, eval a X.env) :: starEach [] X.env := by rfl) : PE X (.Call (.Name "len" p) [.Call (.Name "set" p2) [a] [] q] [] pos) (tLenSetA X.K ta) := by
  refine ⟨fun pins s σ H Q I h => Call_ (ld_blt I hg hm boot_len ?_)⟩
  refine PyProof.Rows.callWith_builtin1 (PyProof.Rows.args_cons (Call_ (ld_blt I hg2 hm2 boot_set ?_)) rfl) rfl rfl
  refine PyProof.Rows.callWith_type1 (PyProof.Rows.args_cons (thn (ha.run pins s σ H _ I h) fun v s1 ⟨x, H1, I1, r1, z⟩ => PyProof.Rows.args_nil ?_) na) na rfl
  obtain ⟨l, ns, rfl, hq, nd, hl, z⟩ := z
  cases r1
  refine set_any hc I1 hq hl fun h' tk c R hle hk => PyProof.Rows.args_nil ?_
  obtain ⟨o, es, ep, t, ho, hex, hd, good, hnd, mem, _, hf, hsz, _⟩ := R
  have ec : c = ns.length := by
    have l1 : ns.length ≤ es.size := by
      have z := nd_len (a := ns) (b := es.toList.map keyOf) nd fun z hz => (mem z).mp (decide_eq_true hz)
      rwa [List.length_map, Array.length_toList] at z
    omega
  exact call_len_set ho hex hd hf (by rw [hsz] <;> omega) ⟨.int ns.length, H1, (I1.kept (t' := tk) hk).tok _, ⟨_, by rw [hsz, ec]⟩, z⟩
end
end Nm


set_option Elab.async false
set_option linter.all false
set_option maxRecDepth 100000
set_option maxHeartbeats 4000000
namespace Nm
open PySem PySem.Spec PyProof.Rows L2
/-! ### what the top has left -/
structure Fx (K : PySem.W.Frag) (mg : Str → Option Value) : Prop where
  z_len : mg "len" = none
  z_isinstance : mg "isinstance" = none
  z_all : mg "all" = none
  z_any : mg "any" = none
  z_tuple : mg "tuple" = none
  z_list : mg "list" = none
  z_set : mg "set" = none
  z_sorted : mg "sorted" = none
  z_range : mg "range" = none
  z_enumerate : mg "enumerate" = none
  z_zip : mg "zip" = none
  z_int : mg "int" = none
  z_abs : mg "abs" = none
  z_bool : mg "bool" = none
  z_str : mg "str" = none
  z_dict : mg "dict" = none
  m_MOST_HANDS : ∃ u, mg "MOST_HANDS" = some u ∧ RelV (.int 5) u
  m_MOST_VALUE : ∃ u, mg "MOST_VALUE" = some u ∧ RelV (.int 1000) u
  m_MOST_NUMBER : ∃ u, mg "MOST_NUMBER" = some u ∧ RelV (.int 100000000000000000000) u
  m_LEVELS : ∃ u, mg "LEVELS" = some u ∧ RelV (.str "levels") u
  m_NAMES : ∃ u, mg "NAMES" = some u ∧ RelV (.str "names") u
  m_NEAR : ∃ u, mg "NEAR" = some u ∧ RelV (.str "near") u
  m_CHAIN : ∃ u, mg "CHAIN" = some u ∧ RelV (.str "chain") u
  m_PUT : ∃ u, mg "PUT" = some u ∧ RelV (.str "put") u
  m_SEE : ∃ u, mg "SEE" = some u ∧ RelV (.str "see") u
  m_MANNERS : ∃ u, mg "MANNERS" = some u ∧ RelV (.ref (He.ga K "MANNERS")) u
  t_MANNERS : ∀ H : Hp, SqT K H (He.ga K "MANNERS") [.str "sweep", .str "twice", .str "borrow"]
  cl : Cls K (He.ga K "Play")
  nK : NoAttr K (He.ga K "Play") "kind"
  nI : NoAttr K (He.ga K "Play") "inputs"
  nR : NoAttr K (He.ga K "Play") "rows"
/-- a class that may be made, by its first method -/
structure ClM (P : Program) (w : World) (K : PySem.W.Frag) (mg : Str → Option Value) (base : Heap) (k : Nat) (x : Str) (C : Addr) (ps : List Str) (sp : Sp) : Prop where
  ex : ∃ (f : Addr) (fd : FuncData), Mk K C f ∧ FnOk P w K mg base CX0 k f fd ps sp ∧ mg x = some (.ref C) ∧ Binds K fd ps []
theorem pe_clm {X : Cx} {j k : Nat} {x : Str} {C : Addr} {ps : List Str} {sp : Sp} {p pos : Pos} {e : Expr} {es : List Expr} {t : TA} (c : ClM X.prog X.w X.K X.mg X.base k x C ps sp) (hr : Room j X.A) (hk : k + 1 ≤ j) (hg : Gl X x) (ha : PA X (e :: es) t)
    (hdb : (x == ("__debug__" : Str)) = false := by decide) (he : starEach (e :: es) X.env = (false, eval e X.env) :: starEach es X.env := by rfl) (hpl : (backTo pos (starEach es X.env)).any (·.1) = false := by rfl) :
    PE X (.Call (.Name x p) (e :: es) [] pos) (tMake C sp [] E0 t) := by
  obtain ⟨f, fd, M, F, hm, hb⟩ := c.ex
  exact pe_make M F (hr.mono hk) hg hm hb .nil (fun _ _ _ _ _ _ _ h => h.elim) ha hdb he hpl
/-! ### data -/
inductive D where
  | non | bl (b : Bool) | int (i : Int) | str (z : Str) | tup (ds : List D)
/-- the value v stands for d in the heap H -/
inductive Rp (H : Hp) : V → D → Prop
  | non : Rp H .non .non
  | bl (b : Bool) : Rp H (.bl b) (.bl b)
  | int (i : Int) : Rp H (.int i) (.int i)
  | str (z : Str) : Rp H (.str z) (.str z)
  | tup {a : Addr} {vs : List V} {ds : List D} : H a = some (.tup vs) → vs.length = ds.length → (∀ (i : Nat) (v : V) (d : D), vs[i]? = some v → ds[i]? = some d → Rp H v d) → Rp H (.ref a) (.tup ds)
/-- all but what stands at p is as it was -/
def Keep (p : Addr) (H H' : Hp) : Prop := ∀ b o, b ≠ p → H b = some o → H' b = some o
theorem Keep.refl (p : Addr) (H : Hp) : Keep p H H := fun _ _ _ h => h
theorem Keep.trans {p : Addr} {H H1 H2 : Hp} (a : Keep p H H1) (b : Keep p H1 H2) : Keep p H H2 := fun c o n h => b c o n (a c o n h)
theorem Keep.of {p : Addr} {H H' : Hp} (a : Same H H') : Keep p H H' := fun c o _ h => a c o h
theorem Keep.new {p q : Addr} {H H' : Hp} {o : HO} (k : Keep p H H') (h : H' q = none) : Keep p H (upd H' q o) := fun c u n e => by
  rw [upd_ne (ne_of_none (k c u n e) h)]; exact k c u n e
theorem Keep.at {p : Addr} {H H' : Hp} {o : HO} (k : Keep p H H') : Keep p H (upd H' p o) := fun c u n e => by
  rw [upd_ne n]; exact k c u n e
theorem same_new {H : Hp} {p : Addr} {o : HO} (h : H p = none) : Same H (upd H p o) := fun b u e => by
  rw [upd_ne (ne_of_none e h)]; exact e
theorem sNew {H H' : Hp} {p : Addr} {o : HO} (k : Same H H') (h : H' p = none) : Same H (upd H' p o) := k.trans (same_new h)
/-- what is written at a place that H knew nothing of -/
theorem sPut {H H' : Hp} {p : Addr} {o : HO} (k : Same H H') (h : H p = none) : Same H (upd H' p o) := fun b u e => by
  rw [upd_ne (ne_of_none e h)]; exact k b u e
theorem Keep.put {p q : Addr} {H H' : Hp} {o : HO} (k : Keep p H H') (h : H q = none) : Keep p H (upd H' q o) := fun b u n e => by
  rw [upd_ne (ne_of_none e h)]; exact k b u n e
theorem Rp.keep {H H' : Hp} {v : V} {d : D} (r : Rp H v d) (k : ∀ b xs, H b = some (.tup xs) → H' b = some (.tup xs)) : Rp H' v d := by
  induction r with
  | non => exact .non
  | bl b => exact .bl b
  | int i => exact .int i
  | str z => exact .str z
  | tup h1 h2 _ ih => exact .tup (k _ _ h1) h2 ih
theorem Rp.same {H H' : Hp} {v : V} {d : D} (r : Rp H v d) (k : Same H H') : Rp H' v d := r.keep fun b xs e => k b _ e
/-- lists of data -/
structure RpL (H : Hp) (vs : List V) (ds : List D) : Prop where
  len : vs.length = ds.length
  at_ : ∀ (i : Nat) (v : V) (d : D), vs[i]? = some v → ds[i]? = some d → Rp H v d
theorem RpL.keep {H H' : Hp} {vs : List V} {ds : List D} (r : RpL H vs ds) (k : ∀ b xs, H b = some (.tup xs) → H' b = some (.tup xs)) : RpL H' vs ds := ⟨r.len, fun i v d h1 h2 => (r.at_ i v d h1 h2).keep k⟩
theorem RpL.same {H H' : Hp} {vs : List V} {ds : List D} (r : RpL H vs ds) (k : Same H H') : RpL H' vs ds := r.keep fun b xs e => k b _ e
theorem RpL.nil {H : Hp} : RpL H [] [] := ⟨rfl, fun i v d h => by simp at h⟩
theorem RpL.cons {H : Hp} {v : V} {d : D} {vs : List V} {ds : List D} (h : Rp H v d) (r : RpL H vs ds) : RpL H (v :: vs) (d :: ds) :=
  ⟨by simp [r.len], fun i v' d' h1 h2 => by
    cases i with
    | zero => simp at h1 h2; subst h1; subst h2; exact h
    | succ i => rw [List.getElem?_cons_succ] at h1 h2; exact r.at_ i v' d' h1 h2⟩
theorem RpL.snoc {H : Hp} {v : V} {d : D} {vs : List V} {ds : List D} (r : RpL H vs ds) (h : Rp H v d) : RpL H (vs ++ [v]) (ds ++ [d]) :=
  ⟨by simp [r.len], fun i v' d' h1 h2 => by
    by_cases hi : i < vs.length
    · rw [List.getElem?_append_left hi] at h1
      rw [List.getElem?_append_left (by rw [← r.len]; exact hi)] at h2
      exact r.at_ i v' d' h1 h2
    · have hl : i < (vs ++ [v]).length := (List.getElem?_eq_some_iff.mp h1).1
      rw [List.length_append, List.length_singleton] at hl
      have e : i = vs.length := by omega
      subst e
      rw [List.getElem?_append_right (Nat.le_refl _), Nat.sub_self] at h1
      rw [r.len, List.getElem?_append_right (Nat.le_refl _), Nat.sub_self] at h2
      simp at h1 h2; subst h1; subst h2; exact h⟩
theorem RpL.set {H : Hp} {v : V} {d : D} {vs : List V} {ds : List D} (r : RpL H vs ds) (h : Rp H v d) (n : Nat) : RpL H (vs.set n v) (ds.set n d) :=
  ⟨by simp [r.len], fun i v' d' h1 h2 => by
    by_cases e : n = i
    · subst e
      by_cases hn : n < vs.length
      · rw [List.getElem?_set_self hn] at h1
        rw [List.getElem?_set_self (by rw [← r.len]; exact hn)] at h2
        cases h1; cases h2; exact h
      · rw [List.getElem?_eq_none (by simpa using hn)] at h1; cases h1
    · rw [List.getElem?_set_ne e] at h1 h2
      exact r.at_ i v' d' h1 h2⟩
theorem RpL.get {H : Hp} {vs : List V} {ds : List D} (r : RpL H vs ds) {i : Nat} {d : D} (h : ds[i]? = some d) : ∃ v, vs[i]? = some v ∧ Rp H v d := by
  have hi : i < vs.length := by rw [r.len]; exact (List.getElem?_eq_some_iff.mp h).1
  exact ⟨vs[i], List.getElem?_eq_getElem hi, r.at_ i _ d (List.getElem?_eq_getElem hi) h⟩
theorem Rp.mk {H : Hp} {a : Addr} {vs : List V} {ds : List D} (h : H a = some (.tup vs)) (r : RpL H vs ds) : Rp H (.ref a) (.tup ds) := .tup h r.len r.at_
theorem Rp.inv {H : Hp} {v : V} {ds : List D} (r : Rp H v (.tup ds)) : ∃ a vs, v = .ref a ∧ H a = some (.tup vs) ∧ RpL H vs ds := by
  cases r with
  | tup h1 h2 h3 => exact ⟨_, _, rfl, h1, h2, h3⟩
theorem Rp.int_inv {H : Hp} {v : V} {i : Int} (r : Rp H v (.int i)) : v = .int i := by cases r; rfl
theorem Rp.bl_inv {H : Hp} {v : V} {b : Bool} (r : Rp H v (.bl b)) : v = .bl b := by cases r; rfl
theorem Rp.non_inv {H : Hp} {v : V} (r : Rp H v .non) : v = .non := by cases r; rfl
theorem Rp.str_inv {H : Hp} {v : V} {z : Str} (r : Rp H v (.str z)) : v = .str z := by cases r; rfl
theorem RpL.ints {H : Hp} : ∀ {vs : List V} {ns : List Int}, RpL H vs (ns.map D.int) → vs = ns.map V.int
  | [], [], _ => rfl
  | [], n :: ns, r => by have := r.len; simp at this
  | v :: vs, [], r => by have := r.len; simp at this
  | v :: vs, n :: ns, r => by
    have h1 := (r.at_ 0 v (.int n) rfl rfl).int_inv
    have h2 : vs = ns.map V.int := RpL.ints ⟨by have := r.len; simpa using this, fun i v' d h1 h2 => r.at_ (i + 1) v' d (by simpa using h1) (by simpa using h2)⟩
    rw [h1, h2]; rfl
theorem RpL.of_ints {H : Hp} : ∀ ns : List Int, RpL H (ns.map V.int) (ns.map D.int)
  | [] => .nil
  | n :: ns => .cons (.int n) (.of_ints ns)
/-! ### the data of the law -/
def dC : Cell → D
  | none => .non
  | some (o, w) => .tup [.int o, .int w]
def dT : Stt → D
  | none => .non
  | some (w, b) => .tup [.int w, .bl b]
def dW (ws : List Int) : D := .tup (ws.map D.int)
def dS (S : Sd) : D := .tup [.tup (S.cells.map dC), .tup (S.states.map dT), .tup (S.told.map dW)]
theorem rp3 {H : Hp} {v : V} {d1 d2 d3 : D} (r : Rp H v (.tup [d1, d2, d3])) : ∃ a v1 v2 v3, v = .ref a ∧ H a = some (.tup [v1, v2, v3]) ∧ Rp H v1 d1 ∧ Rp H v2 d2 ∧ Rp H v3 d3 := by
  obtain ⟨a, vs, rfl, h, r⟩ := r.inv
  match vs, r with
  | [x, y, z], r => exact ⟨a, x, y, z, rfl, h, r.at_ 0 _ _ rfl rfl, r.at_ 1 _ _ rfl rfl, r.at_ 2 _ _ rfl rfl⟩
  | [], r => have := r.len; simp at this
  | [_], r => have := r.len; simp at this
  | [_, _], r => have := r.len; simp at this
  | _ :: _ :: _ :: _ :: _, r => have := r.len; simp at this
theorem rp2 {H : Hp} {v : V} {d1 d2 : D} (r : Rp H v (.tup [d1, d2])) : ∃ a v1 v2, v = .ref a ∧ H a = some (.tup [v1, v2]) ∧ Rp H v1 d1 ∧ Rp H v2 d2 := by
  obtain ⟨a, vs, rfl, h, r⟩ := r.inv
  match vs, r with
  | [x, y], r => exact ⟨a, x, y, rfl, h, r.at_ 0 _ _ rfl rfl, r.at_ 1 _ _ rfl rfl⟩
  | [], r => have := r.len; simp at this
  | [_], r => have := r.len; simp at this
  | _ :: _ :: _ :: _, r => have := r.len; simp at this
theorem Rp.mk3 {H : Hp} {a : Addr} {v1 v2 v3 : V} {d1 d2 d3 : D} (h : H a = some (.tup [v1, v2, v3])) (r1 : Rp H v1 d1) (r2 : Rp H v2 d2) (r3 : Rp H v3 d3) : Rp H (.ref a) (.tup [d1, d2, d3]) := .mk h (.cons r1 (.cons r2 (.cons r3 .nil)))
theorem Rp.mk2 {H : Hp} {a : Addr} {v1 v2 : V} {d1 d2 : D} (h : H a = some (.tup [v1, v2])) (r1 : Rp H v1 d1) (r2 : Rp H v2 d2) : Rp H (.ref a) (.tup [d1, d2]) := .mk h (.cons r1 (.cons r2 .nil))
theorem Rp.mk1 {H : Hp} {a : Addr} {v1 : V} {d1 : D} (h : H a = some (.tup [v1])) (r1 : Rp H v1 d1) : Rp H (.ref a) (.tup [d1]) := .mk h (.cons r1 .nil)
/-- a cell -/
theorem rpC {H : Hp} {v : V} {c : Cell} (r : Rp H v (dC c)) : (c = none ∧ v = .non) ∨ ∃ o w a, c = some (o, w) ∧ v = .ref a ∧ H a = some (.tup [.int o, .int w]) := by
  cases c with
  | none => exact .inl ⟨rfl, r.non_inv⟩
  | some p =>
    obtain ⟨o, w⟩ := p
    obtain ⟨a, v1, v2, rfl, h, r1, r2⟩ := rp2 r
    obtain rfl := r1.int_inv
    obtain rfl := r2.int_inv
    exact .inr ⟨o, w, a, rfl, rfl, h⟩
theorem rpT {H : Hp} {v : V} {c : Stt} (r : Rp H v (dT c)) : (c = none ∧ v = .non) ∨ ∃ w b a, c = some (w, b) ∧ v = .ref a ∧ H a = some (.tup [.int w, .bl b]) := by
  cases c with
  | none => exact .inl ⟨rfl, r.non_inv⟩
  | some p =>
    obtain ⟨o, w⟩ := p
    obtain ⟨a, v1, v2, rfl, h, r1, r2⟩ := rp2 r
    obtain rfl := r1.int_inv
    obtain rfl := r2.bl_inv
    exact .inr ⟨o, w, a, rfl, rfl, h⟩
theorem rpW {H : Hp} {v : V} {ws : List Int} (r : Rp H v (dW ws)) : ∃ a, v = .ref a ∧ H a = some (.tup (ws.map V.int)) := by
  obtain ⟨a, vs, rfl, h, r⟩ := r.inv
  rw [r.ints] at h
  exact ⟨a, rfl, h⟩
/-- an item of a mapped list -/
theorem RpL.getD {α : Type} {H : Hp} {vs : List V} {xs : List α} {f : α → D} (r : RpL H vs (xs.map f)) {i : Nat} (hi : i < xs.length) (d : α) : ∃ v, vs[i]? = some v ∧ Rp H v (f (xs.getD i d)) := by
  obtain ⟨v, h1, h2⟩ := r.get (i := i) (d := f (xs.getD i d)) (by rw [List.getElem?_map, gd_get xs i d hi]; rfl)
  exact ⟨v, h1, h2⟩
theorem RpL.len' {α : Type} {H : Hp} {vs : List V} {xs : List α} {f : α → D} (r : RpL H vs (xs.map f)) : vs.length = xs.length := by rw [r.len, List.length_map]
/-- a tuple as it may be read -/
theorem sqT {K : PySem.W.Frag} {H : Hp} {a : Addr} {xs : List V} (h : H a = some (.tup xs)) : SqT K H a xs := .inl (.inl h)
theorem sqL {K : PySem.W.Frag} {H : Hp} {a : Addr} {xs : List V} (h : H a = some (.lst xs)) : SqL K H a xs := .inl (.inl h)
theorem line {n : Nat} (h : n ≤ 100000) : n ≤ sizeLine := by rw [sizeLine_eq]; omega
theorem line' {n : Nat} (h : n ≤ 100000) : n < sizeLine := by rw [sizeLine_eq]; omega
/-! ### comprehensions whose items are known values -/
section
variable {J : It} {n : Nat} {G : Hp → Prop} {Y : Nat → Hp → V → Hp → Prop}
theorem lc_sel (w : Walk J n G Y) (f : Nat → Option V) {g : TG} {tt : TT} {te : TE} {vs : List Nat} {σ : L2.St} {H1 : Hp} {Dl : Addr} {Qd : Hp → Prop} (hD : H1 Dl = none) (hG : ∀ H, Same H1 H → G H) (hn : n ≤ 100000)
    (hs : ∀ (i : Nat) (x : V) (H H' : Hp) (Kp : V → Hp → Prop) (Kn : Hp → Prop), i < n → Same H1 H → Y i H x H' → (∀ y H4, Same H H4 → f i = some y → Kp y H4) → (∀ H3, Same H H3 → f i = none → Kn H3) →
      g x (wipe σ vs) H' fun σ2 H2 => wipe σ2 vs = wipe σ vs ∧ tt σ2 H2 fun b H3 => if b = true then te σ2 H3 Kp else Kn H3)
    (hd : ∀ H, Same H1 H → H Dl = some (.lst (sel n f)) → Qd H) :
    ∃ W : Nat → Nat → Hp → Prop, (∃ m, W 0 m (upd H1 Dl (.lst []))) ∧ ∀ i m H, W i m H →
      (J.stop i H ∧ Qd H) ∨ (J.go i H ∧ ∃ Nx : Hp → Prop, (∀ H', Nx H' → ∃ m', m' < m ∧ W (i + 1) m' H') ∧ ∀ x H', J.yld i H x H' → g x (wipe σ vs) H' fun σ2 H2 => wipe σ2 vs = wipe σ vs ∧ tt σ2 H2 fun b H3 =>
        if b = true then te σ2 H3 fun y H4 => ∃ acc, H4 Dl = some (.lst acc) ∧ acc.length < sizeLine ∧ Nx (upd H4 Dl (.lst (acc ++ [y]))) else Nx H3) := by
  refine lc_it w (fun i H => Same H1 H ∧ H Dl = some (.lst (sel i f))) ⟨same_new hD, upd_same⟩ (fun i H _ p => hG H p.1) (fun i x H H' hi p y => ?_) fun H p => hd H p.1 p.2
  obtain ⟨s1, e1⟩ := p
  refine hs i x H H' (fun y H4 => ∃ acc, H4 Dl = some (.lst acc) ∧ acc.length < sizeLine ∧ (Same H1 (upd H4 Dl (.lst (acc ++ [y]))) ∧ upd H4 Dl (.lst (acc ++ [y])) Dl = some (.lst (sel (i + 1) f))))
    (fun H3 => Same H1 H3 ∧ H3 Dl = some (.lst (sel (i + 1) f))) hi s1 y (fun y H4 s4 fy => ?_) (fun H3 s3 fn => ?_)
  · refine ⟨sel i f, s4 _ _ e1, line' (Nat.le_trans (sel_len i f) (by omega)), sPut (s1.trans s4) hD, ?_⟩
    rw [upd_same, sel_some fy]
  · exact ⟨s1.trans s3, by rw [sel_none fn]; exact s3 _ _ e1⟩
end
end Nm


set_option Elab.async false
set_option linter.all false
set_option maxRecDepth 100000
set_option maxHeartbeats 4000000
namespace Nm
open PySem PySem.Spec PyProof.Rows L2
/-! ### tuples cut, joined, repeated: some tuple of these items -/
theorem cut_to (xs : List V) (n : Nat) : cutV xs none (some (n : Int)) = xs.take n := by
  unfold cutV
  rw [HT.sIx_none, HT.sIx_nat, List.drop_zero, Nat.sub_zero]
  rcases Nat.le_total n xs.length with h | h
  · rw [Nat.min_eq_left h]
  · rw [Nat.min_eq_right h, List.take_of_length_le h, List.take_length]
theorem cut_from (xs : List V) (n : Nat) : cutV xs (some (n : Int)) none = xs.drop n := by
  unfold cutV
  rw [HT.sIx_none, HT.sIx_nat]
  rcases Nat.le_total n xs.length with h | h
  · rw [Nat.min_eq_left h]
    exact List.take_of_length_le (by rw [List.length_drop]; omega)
  · rw [Nat.min_eq_right h, List.drop_of_length_le h, List.drop_length]
    simp
def rSlB : V → Option Int → Option Int → Hp → VK → Prop := fun x lo hi H Q => ∃ a xs, x = .ref a ∧ H a = some (.tup xs) ∧ ∀ H' p, Same H H' → H' p = some (.tup (cutV xs lo hi)) → Q (.ref p) H'
def rCatB : R2 := fun x y H Q => ∃ a b xs ys, x = .ref a ∧ y = .ref b ∧ H a = some (.tup xs) ∧ H b = some (.tup ys) ∧ xs.length + ys.length ≤ 100000 ∧ ∀ H' p, Same H H' → H' p = some (.tup (xs ++ ys)) → Q (.ref p) H'
def rRepB : R2 := fun x y H Q => ∃ l xs k, x = .ref l ∧ y = .int k ∧ H l = some (.tup xs) ∧ xs ≠ [] ∧ 1 ≤ k ∧ k ≤ 1000 ∧ xs.length ≤ 1000 ∧ ∀ H' p, Same H H' → H' p = some (.tup (List.replicate k.toNat xs).flatten) → Q (.ref p) H'
section
variable {X : Cx}
theorem sl_tupB : SlR X rSlB := by
  intro pins s σ H x v vl vu lo hi sl Q I rx hs pl pu h
  obtain ⟨a, xs, rfl, ha, q⟩ := h
  refine sl_tupA pins s σ H _ v vl vu lo hi sl Q I rx hs pl pu ⟨a, xs, rfl, sqT ha, fun z => ?_, fun _ p hp => q _ p (same_new hp) upd_same⟩
  refine q H a (Same.refl H) ?_
  have e : cutV xs lo hi = xs := by
    unfold cutV
    rw [z.1, z.2, List.drop_zero, Nat.sub_zero, List.take_length]
  rw [e]; exact ha
theorem op_catB : OpR X (binaryOp .Add) rCatB := by
  intro pins s σ H x y v u Q I rx ry h
  obtain ⟨a, b, xs, ys, rfl, rfl, ha, hb, hl, q⟩ := h
  refine op_catA pins s σ H _ _ v u Q I rx ry ⟨a, b, xs, ys, rfl, rfl, sqT ha, sqT hb, line hl, fun e => ?_, fun _ e => ?_, fun _ _ p hp => q _ p (same_new hp) upd_same⟩
  · exact q H b (Same.refl H) (by rw [e]; exact hb)
  · exact q H a (Same.refl H) (by rw [e, List.append_nil]; exact ha)
theorem op_repB : OpR X (binaryOp .Mult) rRepB := by
  intro pins s σ H x y v u Q I rx ry h
  obtain ⟨l, xs, k, rfl, rfl, hl, hne, h1, h2, hz, q⟩ := h
  refine op_repU pins s σ H _ _ v u Q I rx ry ⟨l, k, xs, rfl, rfl, sqT hl, hne, h1, h2, hz, fun e => ?_, fun _ p hp => q _ p (same_new hp) upd_same⟩
  refine q H l (Same.refl H) ?_
  rw [e, show (1 : Int).toNat = 1 from rfl, List.replicate_one, List.flatten_cons, List.flatten_nil, List.append_nil]
  exact hl
end
/-! ### the same rules with the written part named (for a comprehension's block) -/
theorem ix_tupK {X : Cx} {K : PySem.W.Frag} (e : X.K = K) : IxR X (rIxT K) := e ▸ ix_tup
theorem ix_listK {X : Cx} {K : PySem.W.Frag} (e : X.K = K) : IxR X (rIxL K) := e ▸ ix_list
theorem ix_seqK {X : Cx} {K : PySem.W.Frag} (e : X.K = K) : IxR X (rIx K) := e ▸ ix_seq
theorem op_inK {X : Cx} {K : PySem.W.Frag} (e : X.K = K) : OpR X (compareOp .In) (rIn K false) := e ▸ op_in_seq
theorem op_notInK {X : Cx} {K : PySem.W.Frag} (e : X.K = K) : OpR X (compareOp .NotIn) (rIn K true) := e ▸ op_notIn_seq
def rLenK (K : PySem.W.Frag) : List V → Hp → VK → Prop := fun xs H Q => ∃ p ys, xs = [.ref p] ∧ (SqL K H p ys ∨ SqT K H p ys) ∧ Q (.int ys.length) H
theorem call_lenK {X : Cx} {K : PySem.W.Frag} (e : X.K = K) : CallR X (.builtin "len") (rLenK K) := e ▸ call_len_seq
theorem sel_bl (n : Nat) (b : Nat → Bool) : (sel n fun i => some (V.bl (b i))) = (sel n fun i => some (b i)).map V.bl := (sel_map n (fun i => some (b i)) V.bl).symm
theorem all_sel {n : Nat} {b : Nat → Bool} (h : ∀ i, i < n → b i = true) : (sel n fun i => some (b i)).all id = true := by
  rw [List.all_eq_true]
  intro z hz
  obtain ⟨i, hi, e⟩ := mem_sel.mp hz
  rw [← Option.some.inj e]
  exact h i hi
theorem any_sel {n : Nat} {b : Nat → Bool} (h : ∀ i, i < n → b i = false) : (sel n fun i => some (b i)).any id = false := by
  rw [List.any_eq_false]
  intro z hz
  obtain ⟨i, hi, e⟩ := mem_sel.mp hz
  rw [← Option.some.inj e]
  show ¬ b i = true
  rw [h i hi]
  exact Bool.false_ne_true
theorem map_at {α : Type} {f : α → V} {xs : List α} {i : Nat} {v : V} (h : (xs.map f)[i]? = some v) : ∃ x, xs[i]? = some x ∧ v = f x := by
  rw [List.getElem?_map] at h
  cases e : xs[i]? with
  | none => rw [e] at h; cases h
  | some x => rw [e] at h; exact ⟨x, rfl, (Option.some.inj h).symm⟩
theorem lt_of_at {α : Type} {xs : List α} {i : Nat} {v : α} (h : xs[i]? = some v) : i < xs.length := (List.getElem?_eq_some_iff.mp h).1
theorem yes {σ : L2.St} {H : Hp} {A B : Hp → Prop} (h : A H) : tYes σ H (fun b H3 => if b = true then A H3 else B H3) := iteT (A := A H) (B := B H) h
theorem set_cut {α : Type} (xs : List α) (n : Nat) (x : α) (h : n < xs.length) : xs.take n ++ [x] ++ xs.drop (n + 1) = xs.set n x := by
  rw [List.append_assoc, List.singleton_append, List.set_eq_take_append_cons_drop, if_pos h]
end Nm


set_option Elab.async false
set_option linter.all false
set_option maxRecDepth 100000
set_option maxHeartbeats 4000000
namespace Nm
open PySem PySem.Spec PyProof.Rows L2
section
variable {P : Program} {w : World} {K : PySem.W.Frag} {mg : Str → Option Value} {base : Heap}
/-! ### checks -/
abbrev s_is_integer : Stmt := top 9
abbrev N_is_integer : List Str := ["thing"]
abbrev p_is_integer : List Str := ["thing"]
theorem sc_is_integer : FnScope N_is_integer p_is_integer (defScope s_is_integer) := ⟨rfl, rfl, rfl, by decide +kernel, rfl, by decide +kernel, by decide +kernel⟩

def spis_integer (K : PySem.W.Frag) : Sp := fun vs H Q _ => ∃ i, vs = [.int i] ∧ Q (.bl true) H
theorem wk_is_integer (T : Fx K mg) (a_ : At K mg "is_integer" s_is_integer p_is_integer) : Cl P w K mg base 1 "is_integer" p_is_integer (spis_integer K) := by
  refine a_.cl sc_is_integer (fun vs H Q E h => ?_) (fun f_ cdv A outer s_ H vs Q E hr h => ?_)
  · obtain ⟨i, rfl, _⟩ := h
    rfl
  · obtain ⟨i, rfl, q⟩ := h
    refine ⟨_, (pss_one (ps_ret (pe_and (pe_callB call_isi (by rfl) T.z_isinstance (by decide +kernel) (pa_cons (pv 0) (pa_cons (pe_bltn (v := .ty "int") (by rfl) T.z_int (by decide +kernel) rfl) pa_nil))) (pe_one (pe_not (pe_callB call_isi (by rfl) T.z_isinstance (by decide +kernel) (pa_cons (pv 0) (pa_cons (pe_bltn (v := .ty "bool") (by rfl) T.z_bool (by decide +kernel) rfl) pa_nil)))))))), ?_⟩
    refine ⟨_, rfl, _, _, _, _, true, rfl, .ty _, .base (.int _), kit_ty (by decide +kernel), true, rfl, iteT ?_⟩
    exact ⟨_, rfl, _, _, _, _, false, rfl, .ty _, .base (.int _), kit_ty (by decide +kernel), false, rfl, q⟩
abbrev s_is_within : Stmt := top 10
abbrev N_is_within : List Str := ["thing", "least", "most"]
abbrev p_is_within : List Str := ["thing", "least", "most"]
theorem sc_is_within : FnScope N_is_within p_is_within (defScope s_is_within) := ⟨rfl, rfl, rfl, by decide +kernel, rfl, by decide +kernel, by decide +kernel⟩

def spis_within (K : PySem.W.Frag) : Sp := fun vs H Q _ => ∃ i lo hi, vs = [.int i, .int lo, .int hi] ∧ Q (.bl (decide (lo ≤ i ∧ i ≤ hi))) H
theorem wk_is_within (T : Fx K mg) (a_ : At K mg "is_within" s_is_within p_is_within) (c_is_integer : Cl P w K mg base 1 "is_integer" p_is_integer (spis_integer K)) : Cl P w K mg base 2 "is_within" p_is_within (spis_within K) := by
  refine a_.cl sc_is_within (fun vs H Q E h => ?_) (fun f_ cdv A outer s_ H vs Q E hr h => ?_)
  · obtain ⟨i, lo, hi, rfl, _⟩ := h
    rfl
  · obtain ⟨i, lo, hi, rfl, q⟩ := h
    refine ⟨_, (pss_one (ps_ret (pe_and (pe_cl c_is_integer hr (by decide) (by rfl) (pa_cons (pv 0) pa_nil)) (pe_one (pe_chain op_le op_le (pv 1) (pv 0) (pv 2)))))), ?_⟩
    refine ⟨_, rfl, i, rfl, true, rfl, iteT ?_⟩
    refine ⟨_, rfl, _, rfl, lo, i, rfl, rfl, _, rfl, ?_⟩
    by_cases e : lo ≤ i
    · rw [decide_eq_true e]
      refine iteT ⟨_, rfl, i, hi, rfl, rfl, ?_⟩
      show Q (.bl (decide (i ≤ hi))) H
      rw [show decide (i ≤ hi) = decide (lo ≤ i ∧ i ≤ hi) from by simp [e]]
      exact q
    · rw [decide_eq_false e]
      refine iteF ?_
      rw [show decide (lo ≤ i ∧ i ≤ hi) = false from by simp [e]] at q
      exact q
abbrev s_is_below : Stmt := top 11
abbrev N_is_below : List Str := ["thing", "many"]
abbrev p_is_below : List Str := ["thing", "many"]
theorem sc_is_below : FnScope N_is_below p_is_below (defScope s_is_below) := ⟨rfl, rfl, rfl, by decide +kernel, rfl, by decide +kernel, by decide +kernel⟩

def spis_below (K : PySem.W.Frag) : Sp := fun vs H Q _ => ∃ i m, vs = [.int i, .int m] ∧ Q (.bl (decide (0 ≤ i ∧ i ≤ m - 1))) H
theorem wk_is_below (T : Fx K mg) (a_ : At K mg "is_below" s_is_below p_is_below) (c_is_within : Cl P w K mg base 2 "is_within" p_is_within (spis_within K)) : Cl P w K mg base 3 "is_below" p_is_below (spis_below K) := by
  refine a_.cl sc_is_below (fun vs H Q E h => ?_) (fun f_ cdv A outer s_ H vs Q E hr h => ?_)
  · obtain ⟨i, m, rfl, _⟩ := h
    rfl
  · obtain ⟨i, m, rfl, q⟩ := h
    refine ⟨_, (pss_one (ps_ret (pe_cl c_is_within hr (by decide) (by rfl) (pa_cons (pv 0) (pa_cons pe_int (pa_cons (pe_op op_sub (pv 1) pe_int) pa_nil)))))), ?_⟩
    exact ⟨_, rfl, _, rfl, m, 1, rfl, rfl, i, 0, m - 1, rfl, q⟩
abbrev s_is_sized : Stmt := top 12
abbrev N_is_sized : List Str := ["thing", "least", "most"]
abbrev p_is_sized : List Str := ["thing", "least", "most"]
theorem sc_is_sized : FnScope N_is_sized p_is_sized (defScope s_is_sized) := ⟨rfl, rfl, rfl, by decide +kernel, rfl, by decide +kernel, by decide +kernel⟩

def spis_sized (K : PySem.W.Frag) : Sp := fun vs H Q _ => ∃ (a : Addr) (xs : List V) (lo hi : Int), vs = [.ref a, .int lo, .int hi] ∧ H a = some (.tup xs) ∧ Q (.bl (decide (lo ≤ (xs.length : Int) ∧ (xs.length : Int) ≤ hi))) H
theorem wk_is_sized (T : Fx K mg) (a_ : At K mg "is_sized" s_is_sized p_is_sized) : Cl P w K mg base 1 "is_sized" p_is_sized (spis_sized K) := by
  refine a_.cl sc_is_sized (fun vs H Q E h => ?_) (fun f_ cdv A outer s_ H vs Q E hr h => ?_)
  · obtain ⟨a, xs, lo, hi, rfl, _⟩ := h
    rfl
  · obtain ⟨a, xs, lo, hi, rfl, ha, q⟩ := h
    refine ⟨_, (pss_one (ps_ret (pe_and (pe_callB call_isi (by rfl) T.z_isinstance (by decide +kernel) (pa_cons (pv 0) (pa_cons (pe_bltn (v := .ty "tuple") (by rfl) T.z_tuple (by decide +kernel) rfl) pa_nil))) (pe_one (pe_chain op_le op_le (pv 1) (pe_callB call_len_seq (by rfl) T.z_len (by decide +kernel) (pa_cons (pv 0) pa_nil)) (pv 2)))))), ?_⟩
    refine ⟨_, rfl, _, _, _, _, true, rfl, .ty _, .base (.tup ha), kit_ty (by decide +kernel), true, rfl, iteT ?_⟩
    refine ⟨_, rfl, _, rfl, a, xs, rfl, .inr (sqT ha), lo, _, rfl, rfl, _, rfl, ?_⟩
    by_cases e : lo ≤ (xs.length : Int)
    · rw [decide_eq_true e]
      refine iteT ⟨_, rfl, _, hi, rfl, rfl, ?_⟩
      show Q (.bl (decide ((xs.length : Int) ≤ hi))) H
      rw [show decide ((xs.length : Int) ≤ hi) = decide (lo ≤ (xs.length : Int) ∧ (xs.length : Int) ≤ hi) from by simp [e]]
      exact q
    · rw [decide_eq_false e]
      refine iteF ?_
      rw [show decide (lo ≤ (xs.length : Int) ∧ (xs.length : Int) ≤ hi) = false from by simp [e]] at q
      exact q
abbrev s_is_listed : Stmt := top 14
abbrev N_is_listed : List Str := ["thing"]
abbrev p_is_listed : List Str := ["thing"]
theorem sc_is_listed : FnScope N_is_listed p_is_listed (defScope s_is_listed) := ⟨rfl, rfl, rfl, by decide +kernel, rfl, by decide +kernel, by decide +kernel⟩

def spis_listed (K : PySem.W.Frag) : Sp := fun vs H Q _ => ∃ (a : Addr) (xs : List V), vs = [.ref a] ∧ (H a = some (.tup xs) ∨ H a = some (.lst xs)) ∧ ∀ H', Same H H' → Q (.bl true) H'
theorem wk_is_listed (T : Fx K mg) (a_ : At K mg "is_listed" s_is_listed p_is_listed) : Cl P w K mg base 1 "is_listed" p_is_listed (spis_listed K) := by
  refine a_.cl sc_is_listed (fun vs H Q E h => ?_) (fun f_ cdv A outer s_ H vs Q E hr h => ?_)
  · obtain ⟨a, xs, rfl, _⟩ := h
    rfl
  · obtain ⟨a, xs, rfl, ha, q⟩ := h
    refine ⟨_, (pss_one (ps_ret (pe_callB call_isiT (by rfl) T.z_isinstance (by decide +kernel) (pa_cons (pv 0) (pa_cons (pe_tup (pa_cons (pe_bltn (v := .ty "list") (by rfl) T.z_list (by decide +kernel) rfl) (pa_cons (pe_bltn (v := .ty "tuple") (by rfl) T.z_tuple (by decide +kernel) rfl) pa_nil))) pa_nil))))), ?_⟩
    refine ⟨_, rfl, line (by simp), fun p hp => ?_⟩
    have s1 := same_new (o := .tup [.ty "list", .ty "tuple"]) hp
    rcases ha with ha | ha
    · refine ⟨.ref a, p, _, .type "tuple", [.type "list", .type "tuple"], true, rfl, upd_same, .cons (.ty _) (.cons (.ty _) .nil), .base (.tup (s1 _ _ ha)), ?_, q _ s1⟩
      exact kitAny_cons (kit_ty (r := false) (by decide +kernel)) (fun _ => kitAny_cons (kit_ty (r := true) (by decide +kernel)) (fun z => nomatch z) fun _ => rfl) fun z => nomatch z
    · refine ⟨.ref a, p, _, .type "list", [.type "list", .type "tuple"], true, rfl, upd_same, .cons (.ty _) (.cons (.ty _) .nil), .base (.lst (s1 _ _ ha)), ?_, q _ s1⟩
      exact kitAny_cons (kit_ty (r := true) (by decide +kernel)) (fun z => nomatch z) fun _ => rfl
abbrev s_replaced : Stmt := top 15
abbrev N_replaced : List Str := ["items", "number", "item"]
abbrev p_replaced : List Str := ["items", "number", "item"]
theorem sc_replaced : FnScope N_replaced p_replaced (defScope s_replaced) := ⟨rfl, rfl, rfl, by decide +kernel, rfl, by decide +kernel, by decide +kernel⟩

def spreplaced (K : PySem.W.Frag) : Sp := fun vs H Q _ => ∃ (a : Addr) (xs : List V) (n : Nat) (v : V), vs = [.ref a, .int ((n : Nat) : Int), v] ∧ H a = some (.tup xs) ∧ n < xs.length ∧ xs.length ≤ 1000 ∧ ∀ H' p, Same H H' → H' p = some (.tup (xs.set n v)) → Q (.ref p) H'
theorem wk_replaced (T : Fx K mg) (a_ : At K mg "replaced" s_replaced p_replaced) : Cl P w K mg base 1 "replaced" p_replaced (spreplaced K) := by
  refine a_.cl sc_replaced (fun vs H Q E h => ?_) (fun f_ cdv A outer s_ H vs Q E hr h => ?_)
  · obtain ⟨a, xs, n, v, rfl, _⟩ := h
    rfl
  · obtain ⟨a, xs, n, v, rfl, ha, hn, hl, q⟩ := h
    refine ⟨_, (pss_one (ps_ret (pe_op op_catB (pe_op op_catB (pe_slice sl_tupB (pv 0) po_none (po_some (pv 1))) (pe_tup (pa_cons (pv 2) pa_nil))) (pe_slice sl_tupB (pv 0) (po_some (pe_op op_add (pv 1) pe_int)) po_none)))), ?_⟩
    refine ⟨_, rfl, _, rfl, n, rfl, a, xs, rfl, ha, fun H1 p1 s1 e1 => ⟨_, rfl, line (by simp), fun p2 n2 => ⟨p1, p2, _, _, rfl, rfl, same_new n2 _ _ e1, upd_same, ?_, fun H3 p3 s3 e3 => ?_⟩⟩⟩
    · rw [cut_to, List.length_take]; show _ + 1 ≤ _; omega
    have s13 : Same H H3 := (sNew s1 n2).trans s3
    refine ⟨_, rfl, _, rfl, (n : Int), 1, rfl, rfl, ((n : Int) + 1), rfl, a, xs, rfl, s13 _ _ ha, fun H4 p4 s4 e4 => ⟨p3, p4, _, _, rfl, rfl, s4 _ _ e3, e4, ?_, fun H5 p5 s5 e5 => ?_⟩⟩
    · rw [show ((n : Int) + 1) = ((n + 1 : Nat) : Int) by omega, cut_from, cut_to, List.length_append, List.length_take, List.length_drop]; show (_ + 1) + _ ≤ _; omega
    · refine q H5 p5 ((s13.trans s4).trans s5) ?_
      rw [e5, show ((n : Int) + 1) = ((n + 1 : Nat) : Int) by omega, cut_from, cut_to, set_cut xs n v hn]
/-! ### plays -/
abbrev s_is_value : Stmt := top 34
abbrev N_is_value : List Str := ["thing"]
abbrev p_is_value : List Str := ["thing"]
theorem sc_is_value : FnScope N_is_value p_is_value (defScope s_is_value) := ⟨rfl, rfl, rfl, by decide +kernel, rfl, by decide +kernel, by decide +kernel⟩

def spis_value (K : PySem.W.Frag) : Sp := fun vs H Q _ => ∃ i, vs = [.int i] ∧ Q (.bl (decide (0 ≤ i ∧ i ≤ 999))) H
theorem wk_is_value (T : Fx K mg) (a_ : At K mg "is_value" s_is_value p_is_value) (c_is_below : Cl P w K mg base 3 "is_below" p_is_below (spis_below K)) : Cl P w K mg base 4 "is_value" p_is_value (spis_value K) := by
  refine a_.cl sc_is_value (fun vs H Q E h => ?_) (fun f_ cdv A outer s_ H vs Q E hr h => ?_)
  · obtain ⟨i, rfl, _⟩ := h
    rfl
  · obtain ⟨i, rfl, q⟩ := h
    refine ⟨_, (pss_one (ps_ret (pe_cl c_is_below hr (by decide) (by rfl) (pa_cons (pv 0) (pa_cons (pe_gl (by rfl) T.m_MOST_VALUE) pa_nil))))), ?_⟩
    exact ⟨_, rfl, i, 1000, rfl, q⟩
abbrev s_is_row_of : Stmt := top 37
abbrev N_is_row_of : List Str := ["is_one", "thing", "item"]
abbrev p_is_row_of : List Str := ["is_one", "thing"]
theorem sc_is_row_of : FnScope N_is_row_of p_is_row_of (defScope s_is_row_of) := ⟨rfl, rfl, rfl, by decide +kernel, rfl, by decide +kernel, by decide +kernel⟩

def spis_row_of (f1 : Addr) (K : PySem.W.Frag) : Sp := fun vs H Q _ => ∃ (a : Addr) (ns : List Int), vs = [.ref f1, .ref a] ∧ H a = some (.tup (ns.map V.int)) ∧ 1 ≤ ns.length ∧ ns.length ≤ 5 ∧ (∀ n ∈ ns, 0 ≤ n ∧ n ≤ 999) ∧ ∀ H', Same H H' → Q (.bl true) H'
theorem wk_is_row_of (T : Fx K mg) {f1 : Addr} {fd1 : FuncData} (F_is_one : FnOk P w K mg base CX0 4 f1 fd1 p_is_value (spis_value K)) (k_is_one : PySem.W.keepIn K (.ref f1) = true) (b_is_one : Binds K fd1 p_is_value [])
    (a_ : At K mg "is_row_of" s_is_row_of p_is_row_of) (c_is_sized : Cl P w K mg base 1 "is_sized" p_is_sized (spis_sized K)) : Cl P w K mg base 5 "is_row_of" p_is_row_of (spis_row_of f1 K) := by
  refine a_.cl sc_is_row_of (fun vs H Q E h => ?_) (fun f_ cdv A outer s_ H vs Q E hr h => ?_)
  · obtain ⟨a, ns, rfl, _⟩ := h
    rfl
  · obtain ⟨a, ns, rfl, ha, h1, h5, hv, q⟩ := h
    refine ⟨_, (pss_one (ps_ret (pe_and (pe_cl c_is_sized hr (by decide) (by rfl) (pa_cons (pv 1) (pa_cons pe_int (pa_cons (pe_gl (by rfl) T.m_MOST_HANDS) pa_nil)))) (pe_one (pe_callB (cr_all rfl) (by rfl) T.z_all (by decide +kernel) (pa_cons (pe_lc (own := [("item", 2)]) (g := gName 2) rfl sc_is_row_of.nd (pi_tup (pv 1)) (blkOk_by (own := [("item", 2)]) (N := N_is_row_of) (sc := defScope s_is_row_of) (by decide +kernel)) (fun _ _ _ _ _ => (pg_name (i := 2) sc_is_row_of.nd rfl (by first | exact Or.inl rfl | exact Or.inr rfl))) (fun _ _ _ _ _ => pts_nil) (fun _ _ _ _ _ => (pe_callL (i := 0) (dvs := []) (E := E0) F_is_one hr rfl (by first | exact Or.inl rfl | exact Or.inr (Or.inl rfl) | exact Or.inr (Or.inr rfl)) k_is_one b_is_one .nil (fun _ _ _ _ _ _ _ h => h.elim) (pa_cons (pv 2) pa_nil)))) pa_nil)))))), ?_⟩
    refine ⟨_, rfl, a, _, 1, 5, rfl, ha, ?_⟩
    rw [List.length_map, decide_eq_true (show (1 : Int) ≤ (ns.length : Int) ∧ (ns.length : Int) ≤ 5 by omega)]
    refine ⟨true, rfl, iteT ?_⟩
    refine ⟨_, rfl, a, rfl, ⟨_, sqT ha⟩, fun Dl hD => lc_sel walk_tup (fun i => some (.bl true)) hD (fun H' s => sqT (s _ _ ha)) (by rw [List.length_map]; omega) (fun i x H1 H2 Kp Kn hi s y kp kn => ?_) (fun H1 s1 e1 => ?_)⟩
    · obtain ⟨rfl, hx⟩ := y
      obtain ⟨n, hn, rfl⟩ := map_at hx
      refine ⟨rfl, yes ⟨rfl, _, rfl, n, rfl, ?_⟩⟩
      rw [decide_eq_true (hv n (List.mem_of_getElem? hn))]
      exact kp _ _ (Same.refl _) rfl
    · rw [sel_bl] at e1
      refine ⟨Dl, _, rfl, sqL e1, ?_⟩
      rw [all_sel fun _ _ => rfl]
      exact q _ s1
abbrev s_are_inputs : Stmt := top 38
abbrev N_are_inputs : List Str := ["kind", "thing"]
abbrev p_are_inputs : List Str := ["kind", "thing"]
theorem sc_are_inputs : FnScope N_are_inputs p_are_inputs (defScope s_are_inputs) := ⟨rfl, rfl, rfl, by decide +kernel, rfl, by decide +kernel, by decide +kernel⟩

def spare_inputs (K : PySem.W.Frag) : Sp := fun vs H Q _ => ∃ (a : Addr) (ns : List Int), vs = [.str "names", .ref a] ∧ H a = some (.tup (ns.map V.int)) ∧ 1 ≤ ns.length ∧ ns.length ≤ 5 ∧ (∀ n ∈ ns, 0 ≤ n ∧ n ≤ 999) ∧ ns.Nodup ∧ ∀ H', Same H H' → Q (.bl true) H'
theorem not_manner : inV (.str "names") [.str "sweep", .str "twice", .str "borrow"] = false := by decide +kernel
theorem not_levels : decide (V.str "names" = V.str "levels") = false := by decide +kernel
theorem is_names : decide (V.str "names" = V.str "names") = true := by decide +kernel
theorem not_near : decide (V.str "names" = V.str "near") = false := by decide +kernel
theorem wk_are_inputs (T : Fx K mg) (a_ : At K mg "are_inputs" s_are_inputs p_are_inputs) (a_r : At K mg "is_row_of" s_is_row_of p_is_row_of) (c_is_sized : Cl P w K mg base 1 "is_sized" p_is_sized (spis_sized K)) (c_is_value : Cl P w K mg base 4 "is_value" p_is_value (spis_value K)) : Cl P w K mg base 6 "are_inputs" p_are_inputs (spare_inputs K) := by
  obtain ⟨f1, fd1, F1, hm1, hk1, hb1⟩ := c_is_value.ex
  have c_is_row_of := wk_is_row_of T F1 hk1 hb1 a_r c_is_sized
  have g_is_value : ∃ u, mg "is_value" = some u ∧ RelV (.ref f1) u := ⟨_, hm1, rfl⟩
  refine a_.cl sc_are_inputs (fun vs H Q E h => ?_) (fun f_ cdv A outer s_ H vs Q E hr h => ?_)
  · obtain ⟨a, ns, rfl, _⟩ := h
    rfl
  · obtain ⟨a, ns, rfl, ha, h1, h5, hv, hnd, q⟩ := h
    refine ⟨_, (pss_cons (ps_if (pt_cmpR op_in_seq (pv 0) (pe_gl (by rfl) T.m_MANNERS) (by rfl)) pss_never pss_nil)
        (pss_cons (ps_if (pt_cmpR op_eq (pv 0) (pe_gl (by rfl) T.m_LEVELS) (nomark _)) pss_never pss_nil)
        (pss_cons (ps_if (pt_cmpR op_eq (pv 0) (pe_gl (by rfl) T.m_NAMES) (nomark _)) (pss_one (ps_ret (pe_and (pe_cl c_is_row_of hr (by decide) (by rfl) (pa_cons (pe_gl (v := .ref f1) (by rfl) g_is_value) (pa_cons (pv 1) pa_nil))) (pe_one (pe_cmpR op_eq (pe_lenSetA (by rfl) T.z_len (by rfl) T.z_set (pv 1)) (pe_callB call_len_seq (by rfl) T.z_len (by decide +kernel) (pa_cons (pv 1) pa_nil)) (nomark _)))))) pss_nil)
        pss_never))), ?_⟩
    refine ⟨_, rfl, _, _, rfl, .inr (T.t_MANNERS H), rfl, rfl, _, rfl, ?_⟩
    show if (inV (.str "names") [.str "sweep", .str "twice", .str "borrow"]) = true then _ else _
    rw [not_manner]
    refine iteF ⟨_, rfl, rfl, _, rfl, ?_⟩
    rw [not_levels]
    refine iteF ⟨_, rfl, rfl, _, rfl, ?_⟩
    rw [is_names]
    refine iteT ⟨_, rfl, a, ns, rfl, ha, h1, h5, hv, fun H1 s1 => ⟨true, rfl, iteT ?_⟩⟩
    refine ⟨_, rfl, a, ns, rfl, .inr (sqT (s1 _ _ ha)), hnd, by omega, _, rfl, a, _, rfl, .inr (sqT (s1 _ _ ha)), rfl, ?_⟩
    rw [List.length_map, decide_eq_true rfl]
    exact q H1 s1
/-- the play of these old names stands at p -/
def PlayAt (K : PySem.W.Frag) (H : Hp) (p : Addr) (rows : List Int) : Prop :=
  ∃ dx r, H p = some (.ins (He.ga K "Play") dx [(("kind" : Str), V.str "names"), (("inputs" : Str), V.ref r), (("rows" : Str), V.ref r)]) ∧ H r = some (.tup (rows.map V.int))
abbrev s_Play : Stmt := inClass (top 39) 0
abbrev N_Play : List Str := ["self", "kind", "inputs"]
abbrev p_Play : List Str := ["self", "kind", "inputs"]
theorem sc_Play : FnScope N_Play p_Play (defScope s_Play) := ⟨rfl, rfl, rfl, by decide +kernel, rfl, by decide +kernel, by decide +kernel⟩

def spPlay (K : PySem.W.Frag) : Sp := fun vs H Q _ => ∃ (p a : Addr) (ns : List Int) (dx : Addr), vs = [.ref p, .str "names", .ref a] ∧ H p = some (.ins (He.ga K "Play") dx []) ∧ H a = some (.tup (ns.map V.int)) ∧ 1 ≤ ns.length ∧ ns.length ≤ 5 ∧ (∀ n ∈ ns, 0 ≤ n ∧ n ≤ 999) ∧ ns.Nodup ∧
  ∀ H', Keep p H H' → PlayAt K H' p ns → Q .non H'
theorem one_kind : inV (.str "names") ([.str "sweep", .str "twice", .str "borrow"] ++ [.str "levels", .str "names", .str "near", .str "chain"]) = true := by decide +kernel
theorem put_kind : putF "kind" (.str "names") [] = [(("kind" : Str), V.str "names")] := by rfl
theorem put_inputs (r : Addr) : putF "inputs" (.ref r) [(("kind" : Str), V.str "names")] = [(("kind" : Str), V.str "names"), (("inputs" : Str), V.ref r)] := by
  show (if ("kind" : Str) = "inputs" then _ else _) = _
  rw [if_neg (by decide +kernel)]; rfl
theorem put_rows (r : Addr) : putF "rows" (.ref r) [(("kind" : Str), V.str "names"), (("inputs" : Str), V.ref r)] = [(("kind" : Str), V.str "names"), (("inputs" : Str), V.ref r), (("rows" : Str), V.ref r)] := by
  show (if ("kind" : Str) = "rows" then _ else (("kind" : Str), V.str "names") :: (if ("inputs" : Str) = "rows" then _ else _)) = _
  rw [if_neg (by decide +kernel), if_neg (by decide +kernel)]; rfl
theorem wk_Play (T : Fx K mg) {C fI : Addr} {fdI : FuncData} (F_ : FunD K "__init__" "Play.__init__" (defArgs s_Play) (defBody s_Play) (defScope s_Play) [] [] fI fdI) (c_are_inputs : Cl P w K mg base 6 "are_inputs" p_are_inputs (spare_inputs K)) : FnOk P w K mg base CX0 7 fI fdI p_Play (spPlay K) := by
  refine F_.ok sc_Play (fun vs H Q E h => ?_) (fun cdv A outer s_ H vs Q E hr h => ?_)
  · obtain ⟨p, a, ns, dx, rfl, _⟩ := h
    rfl
  · obtain ⟨p, a, ns, dx, rfl, hp, ha, h1, h5, hv, hnd, q⟩ := h
    refine ⟨_, PSs.nox (pss_cons (ps_if (PW.pt (pw_or (pt_not (pt_val (pe_callB call_isi (by rfl) T.z_isinstance (by decide +kernel) (pa_cons (pv 1) (pa_cons (pe_bltn (v := .ty "str") (by rfl) T.z_str (by decide +kernel) rfl) pa_nil))))) (pw_or1 (pt_cmpR op_notIn_seq (pv 1) (pe_op op_catA (pe_gl (by rfl) T.m_MANNERS) (pe_tup (pa_cons (pe_gl (by rfl) T.m_LEVELS) (pa_cons (pe_gl (by rfl) T.m_NAMES) (pa_cons (pe_gl (by rfl) T.m_NEAR) (pa_cons (pe_gl (by rfl) T.m_CHAIN) pa_nil)))))) (by rfl))))) pss_never pss_nil)
        (pss_cons (ps_if (pt_not (pt_val (pe_cl c_are_inputs hr (by decide) (by rfl) (pa_cons (pv 1) (pa_cons (pv 2) pa_nil))))) pss_never pss_nil)
        (pss_cons (ps_fld (pv 0) (pv 1) rfl)
        (pss_cons (ps_fld (pv 0) (pv 2) rfl)
        (pss_one (ps_fld (pv 0) (pe_ifExp (pt_cmpR op_eq (pv 1) (pe_gl (by rfl) T.m_NEAR) (nomark _)) pe_never (pv 2)) rfl)))))), ?_⟩
    refine ⟨_, rfl, _, _, _, _, true, rfl, .ty _, .base (.str _), kit_ty (by decide +kernel), true, rfl, ?_⟩
    refine iteF ⟨_, rfl, line (by simp), fun p1 n1 => ⟨_, p1, _, _, rfl, rfl, T.t_MANNERS _, sqT upd_same, line (by simp), (fun z => absurd z (by simp)), (fun _ z => absurd z (by simp)), fun _ _ p2 n2 => ⟨p2, _, rfl, .inr (sqT upd_same), rfl, rfl, _, rfl, ?_⟩⟩⟩
    have s2 : ∀ o, Same H (upd _ p2 o) := fun o => sNew (sNew (Same.refl H) n1) n2
    show if (!inV (.str "names") ([.str "sweep", .str "twice", .str "borrow"] ++ [.str "levels", .str "names", .str "near", .str "chain"])) = true then _ else _
    rw [one_kind]
    refine iteF ⟨_, rfl, _, rfl, a, ns, rfl, s2 _ _ _ ha, h1, h5, hv, hnd, fun H3 s3 => ⟨true, rfl, iteF ?_⟩⟩
    have s03 : Same H H3 := (s2 _).trans s3
    refine ⟨_, rfl, _, rfl, p, _, dx, _, rfl, s03 _ _ hp, T.cl, T.nK, (by show 0 < 1000; decide), ?_⟩
    rw [put_kind]
    refine ⟨_, rfl, _, rfl, p, _, dx, _, rfl, upd_same, T.cl, T.nI, (by show 1 < 1000; decide), ?_⟩
    rw [put_inputs, upd_upd]
    refine ⟨_, rfl, rfl, _, rfl, ?_⟩
    rw [not_near]
    refine iteF ⟨_, rfl, _, rfl, p, _, dx, _, rfl, upd_same, T.cl, T.nR, (by show 2 < 1000; decide), ?_⟩
    rw [put_rows, upd_upd]
    refine q _ (Keep.at (Keep.of s03)) ⟨dx, a, upd_same, ?_⟩
    rw [upd_ne (ne_of ha hp (by intro z; cases z))]
    exact s03 _ _ ha
/-! ### hands -/
theorem play_rows {H : Hp} {p : Addr} {rows : List Int} (h : PlayAt K H p rows) : ∃ dx r, H p = some (.ins (He.ga K "Play") dx [(("kind" : Str), V.str "names"), (("inputs" : Str), V.ref r), (("rows" : Str), V.ref r)]) ∧ H r = some (.tup (rows.map V.int)) ∧
    ([(("kind" : Str), V.str "names"), (("inputs" : Str), V.ref r), (("rows" : Str), V.ref r)] : List (Str × V)).lookup ("rows" : Str) = some (.ref r) ∧ ([(("kind" : Str), V.str "names"), (("inputs" : Str), V.ref r), (("rows" : Str), V.ref r)] : List (Str × V)).lookup ("kind" : Str) = some (.str "names") := by
  obtain ⟨dx, r, h1, h2⟩ := h
  exact ⟨dx, r, h1, h2, by rfl, by rfl⟩
theorem PlayAt.keep {H H' : Hp} {p q : Addr} {rows : List Int} (h : PlayAt K H p rows) {xs : List V} (hq : H q = some (.lst xs)) (k : Keep q H H') : PlayAt K H' p rows := by
  obtain ⟨dx, r, h1, h2⟩ := h
  exact ⟨dx, r, k _ _ (ne_of h1 hq (by intro z; cases z)) h1, k _ _ (ne_of h2 hq (by intro z; cases z)) h2⟩
theorem PlayAt.same {H H' : Hp} {p : Addr} {rows : List Int} (h : PlayAt K H p rows) (k : Same H H') : PlayAt K H' p rows := by
  obtain ⟨dx, r, h1, h2⟩ := h
  exact ⟨dx, r, k _ _ h1, k _ _ h2⟩
abbrev s_is_hand : Stmt := top 40
abbrev N_is_hand : List Str := ["play", "thing"]
abbrev p_is_hand : List Str := ["play", "thing"]
theorem sc_is_hand : FnScope N_is_hand p_is_hand (defScope s_is_hand) := ⟨rfl, rfl, rfl, by decide +kernel, rfl, by decide +kernel, by decide +kernel⟩

def spis_hand (K : PySem.W.Frag) : Sp := fun vs H Q _ => ∃ (p : Addr) (rows : List Int) (i : Int), vs = [.ref p, .int i] ∧ PlayAt K H p rows ∧ Q (.bl (decide (0 ≤ i ∧ i < rows.length))) H
theorem wk_is_hand (T : Fx K mg) (a_ : At K mg "is_hand" s_is_hand p_is_hand) (c_is_below : Cl P w K mg base 3 "is_below" p_is_below (spis_below K)) : Cl P w K mg base 4 "is_hand" p_is_hand (spis_hand K) := by
  refine a_.cl sc_is_hand (fun vs H Q E h => ?_) (fun f_ cdv A outer s_ H vs Q E hr h => ?_)
  · obtain ⟨p, rows, i, rfl, _⟩ := h
    rfl
  · obtain ⟨p, rows, i, rfl, hp, q⟩ := h
    refine ⟨_, (pss_one (ps_ret (pe_cl c_is_below hr (by decide) (by rfl) (pa_cons (pv 1) (pa_cons (pe_callB call_len_seq (by rfl) T.z_len (by decide +kernel) (pa_cons (pe_fld (pv 0) rfl) pa_nil)) pa_nil))))), ?_⟩
    obtain ⟨dx, r, h1, h2, l1, l2⟩ := play_rows hp
    refine ⟨_, rfl, _, rfl, p, _, dx, _, _, rfl, h1, T.cl, T.nR, l1, r, _, rfl, .inr (sqT h2), i, (rows.length : Int), ?_, ?_⟩
    · rw [List.length_map]
      rfl
    · rw [show decide (0 ≤ i ∧ i ≤ (rows.length : Int) - 1) = decide (0 ≤ i ∧ i < rows.length) from by congr 1; apply propext; omega]
      exact q
abbrev s_check_hand : Stmt := top 41
abbrev N_check_hand : List Str := ["play", "thing"]
abbrev p_check_hand : List Str := ["play", "thing"]
theorem sc_check_hand : FnScope N_check_hand p_check_hand (defScope s_check_hand) := ⟨rfl, rfl, rfl, by decide +kernel, rfl, by decide +kernel, by decide +kernel⟩

def spcheck_hand (K : PySem.W.Frag) : Sp := fun vs H Q _ => ∃ (p : Addr) (rows : List Int) (i : Int), vs = [.ref p, .int i] ∧ PlayAt K H p rows ∧ 0 ≤ i ∧ i < rows.length ∧ Q .non H
theorem wk_check_hand (T : Fx K mg) (a_ : At K mg "check_hand" s_check_hand p_check_hand) (c_is_hand : Cl P w K mg base 4 "is_hand" p_is_hand (spis_hand K)) : Cl P w K mg base 5 "check_hand" p_check_hand (spcheck_hand K) := by
  refine a_.cl sc_check_hand (fun vs H Q E h => ?_) (fun f_ cdv A outer s_ H vs Q E hr h => ?_)
  · obtain ⟨p, rows, i, rfl, _⟩ := h
    rfl
  · obtain ⟨p, rows, i, rfl, hp, h0, h1, q⟩ := h
    refine ⟨_, (pss_one (ps_if (pt_not (pt_val (pe_cl c_is_hand hr (by decide) (by rfl) (pa_cons (pv 0) (pa_cons (pv 1) pa_nil))))) pss_never pss_nil)), ?_⟩
    refine ⟨_, rfl, _, rfl, p, rows, i, rfl, hp, ?_⟩
    rw [decide_eq_true (show 0 ≤ i ∧ i < rows.length from ⟨h0, h1⟩)]
    exact ⟨true, rfl, iteF q⟩
end
end Nm


set_option Elab.async false
set_option linter.all false
set_option maxRecDepth 100000
set_option maxHeartbeats 4000000
namespace Nm
open PySem PySem.Spec PyProof.Rows L2
/-! ### tests that come often -/
theorem iteNN {c A B : Prop} [Decidable c] (hc : ¬ c) (h : A) : if (!decide c) = true then A else B := by
  rw [decide_eq_false hc]
  exact iteT h
theorem iteNT {A B : Prop} (h : B) : if (!true) = true then A else B := iteF h
theorem iteNF {A B : Prop} (h : A) : if (!false) = true then A else B := iteT h
abbrev vN (h : Nat) : V := .int ((h : Nat) : Int)
section
variable {K : PySem.W.Frag} {mg : Str → Option Value} {H : Hp} {p : Addr} {rows : List Int} {σ : L2.St}
theorem kind_is (T : Fx K mg) (hp : PlayAt K H p rows) (h0 : σ[0]? = some (some (.ref p))) {Q : VK} (q : Q (.str "names") H) : tFld K (tVar 0) "kind" σ H Q := by
  obtain ⟨dx, r, h1, h2, l1, l2⟩ := play_rows hp
  exact ⟨_, h0, p, _, dx, _, _, rfl, h1, T.cl, T.nK, l2, q⟩
theorem rows_is (T : Fx K mg) (hp : PlayAt K H p rows) (h0 : σ[0]? = some (some (.ref p))) {Q : VK} (q : ∀ r, H r = some (.tup (rows.map V.int)) → Q (.ref r) H) : tFld K (tVar 0) "rows" σ H Q := by
  obtain ⟨dx, r, h1, h2, l1, l2⟩ := play_rows hp
  exact ⟨_, h0, p, _, dx, _, _, rfl, h1, T.cl, T.nR, l1, q r h2⟩
theorem test_manner (T : Fx K mg) (hp : PlayAt K H p rows) (h0 : σ[0]? = some (some (.ref p))) {Q : Bool → Hp → Prop} (q : Q false H) : tTest (tOp (rIn K false) (tFld K (tVar 0) "kind") (tC (.ref (He.ga K "MANNERS")))) σ H Q := by
  refine kind_is (Q := fun x H1 => rIn K false x (.ref (He.ga K "MANNERS")) H1 fun x H' => ∃ k, x = .bl k ∧ Q k H') T hp h0 ⟨_, _, rfl, .inr (T.t_MANNERS H), rfl, rfl, _, rfl, ?_⟩
  show Q (inV (.str "names") [.str "sweep", .str "twice", .str "borrow"]) H
  rw [not_manner]
  exact q
theorem test_kind (T : Fx K mg) (hp : PlayAt K H p rows) (h0 : σ[0]? = some (some (.ref p))) {z : Str} {b : Bool} (hb : decide (V.str "names" = V.str z) = b) {Q : Bool → Hp → Prop} (q : Q b H) : tTest (tOp rEq (tFld K (tVar 0) "kind") (tC (.str z))) σ H Q := by
  refine kind_is (Q := fun x H1 => rEq x (.str z) H1 fun x H' => ∃ k, x = .bl k ∧ Q k H') T hp h0 ⟨rfl, _, rfl, ?_⟩
  rw [hb]
  exact q
end
theorem flat_ints (ns : List Int) : (ns.map V.int).all flatV = true := by
  rw [List.all_eq_true]
  intro v hv
  obtain ⟨n, _, rfl⟩ := List.mem_map.mp hv
  rfl
theorem inV_ints (z : Int) (ns : List Int) : inV (.int z) (ns.map V.int) = decide (z ∈ ns) := by
  unfold inV
  induction ns with
  | nil => rfl
  | cons n ns ih =>
    rw [List.map_cons, List.any_cons, ih]
    show ((n == z) || decide (z ∈ ns)) = decide (z ∈ n :: ns)
    by_cases e : n = z
    · subst e; simp
    · have e' : ¬ z = n := fun q => e q.symm
      simp [e, e', beq_eq_false_iff_ne.mpr e]
theorem rpl_sel {H : Hp} {f : Nat → Option V} {g : Nat → Option D} : ∀ {n : Nat}, (∀ i, i < n → (f i = none ∧ g i = none) ∨ ∃ v d, f i = some v ∧ g i = some d ∧ Rp H v d) → RpL H (sel n f) (sel n g)
  | 0, _ => .nil
  | n + 1, h => by
    have ih := rpl_sel (H := H) (f := f) (g := g) (n := n) fun i hi => h i (by omega)
    rcases h n (by omega) with ⟨e1, e2⟩ | ⟨v, d, e1, e2, r⟩
    · rw [sel_none e1, sel_none e2]; exact ih
    · rw [sel_some e1, sel_some e2]; exact ih.snoc r
theorem lt_of_cell {cells : List Cell} {h : Nat} {c : Int × Int} (hc : cells.getD h none = some c) : h < cells.length := by
  by_cases q : h < cells.length
  · exact q
  · rw [gd_out _ _ _ (by omega)] at hc; cases hc
theorem at2 (x y : V) : atI [x, y] (-1) = some y := atI_last [x] y
/-- what comes of a step: a cell, a state, something told -/
def aft (rows : List Int) (cells : List Cell) (h : Nat) (w : Int) (b : Bool) : Cell × Stt × Option Int :=
  if b = true then (if w ∈ taken cells h then (none, some (wish cells h (rows.getD h 0), false), none) else (none, none, some w)) else (some (rows.getD h 0, w), some (w, true), none)
def dO : Option Int → D
  | none => .non
  | some i => .int i
def dA (x : Cell × Stt × Option Int) : D := .tup [dC x.1, dT x.2.1, dO x.2.2]
theorem aft_moved {rows : List Int} {S : Sd} {h : Nat} {w : Int} {b : Bool} (e : S.states.getD h none = some (w, b)) :
    moved rows S h = ⟨if b = false then S.cells.set h (aft rows S.cells h w b).1 else S.cells, S.states.set h (aft rows S.cells h w b).2.1,
      match (aft rows S.cells h w b).2.2 with | none => S.told | some i => S.told.set h (S.told.getD h [] ++ [i])⟩ := by
  cases b with
  | false => rw [moved_put e]; rfl
  | true =>
    unfold aft
    rw [if_pos rfl]
    by_cases q : w ∈ taken S.cells h
    · rw [moved_clash e q, if_pos q]; rfl
    · rw [moved_tell e q, if_neg q]; rfl
end Nm


set_option Elab.async false
set_option linter.all false
set_option maxRecDepth 100000
set_option maxHeartbeats 8000000
namespace Nm
open PySem PySem.Spec PyProof.Rows L2
section
variable {P : Program} {w : World} {K : PySem.W.Frag} {mg : Str → Option Value} {base : Heap}
/-! ### new names -/
abbrev s_top_cell : Stmt := top 63
abbrev N_top_cell : List Str := ["play", "hand"]
abbrev p_top_cell : List Str := ["play", "hand"]
theorem sc_top_cell : FnScope N_top_cell p_top_cell (defScope s_top_cell) := ⟨rfl, rfl, rfl, by decide +kernel, rfl, by decide +kernel, by decide +kernel⟩

def sptop_cell (K : PySem.W.Frag) : Sp := fun vs H Q _ => ∃ (p : Addr) (rows : List Int) (h : Nat), vs = [.ref p, vN h] ∧ PlayAt K H p rows ∧ Q .non H
theorem wk_top_cell (T : Fx K mg) (a_ : At K mg "top_cell" s_top_cell p_top_cell) : Cl P w K mg base 1 "top_cell" p_top_cell (sptop_cell K) := by
  refine a_.cl sc_top_cell (fun vs H Q E h => ?_) (fun f_ cdv A outer s_ H vs Q E hr h => ?_)
  · obtain ⟨p, rows, h0, rfl, _⟩ := h
    rfl
  · obtain ⟨p, rows, h0, rfl, hp, q⟩ := h
    refine ⟨_, (pss_one (ps_ret (pe_ifExp (pt_cmpR op_eq (pe_fld (pv 0) rfl) (pe_gl (by rfl) T.m_NEAR) (nomark _)) pe_never pe_non))), ?_⟩
    exact test_kind T hp rfl not_near (iteF q)
abbrev s_top_state : Stmt := top 64
abbrev N_top_state : List Str := ["play", "hand"]
abbrev p_top_state : List Str := ["play", "hand"]
theorem sc_top_state : FnScope N_top_state p_top_state (defScope s_top_state) := ⟨rfl, rfl, rfl, by decide +kernel, rfl, by decide +kernel, by decide +kernel⟩

def sptop_state (K : PySem.W.Frag) : Sp := fun vs H Q _ => ∃ (p : Addr) (rows : List Int) (h : Nat), vs = [.ref p, vN h] ∧ PlayAt K H p rows ∧ ∀ H' a, Same H H' → H' a = some (.tup [.int 1, .bl false]) → Q (.ref a) H'
theorem wk_top_state (T : Fx K mg) (a_ : At K mg "top_state" s_top_state p_top_state) : Cl P w K mg base 1 "top_state" p_top_state (sptop_state K) := by
  refine a_.cl sc_top_state (fun vs H Q E h => ?_) (fun f_ cdv A outer s_ H vs Q E hr h => ?_)
  · obtain ⟨p, rows, h0, rfl, _⟩ := h
    rfl
  · obtain ⟨p, rows, h0, rfl, hp, q⟩ := h
    refine ⟨_, (pss_cons (ps_if (pt_cmpR op_eq (pe_fld (pv 0) rfl) (pe_gl (by rfl) T.m_NAMES) (nomark _)) (pss_one (ps_ret (pe_tup (pa_cons pe_int (pa_cons pe_bl pa_nil))))) pss_nil)
        pss_never), ?_⟩
    exact test_kind T hp rfl is_names (iteT ⟨line (by simp), fun a na => q _ a (same_new na) upd_same⟩)
abbrev s_top_next : Stmt := top 65
abbrev N_top_next : List Str := ["play", "hand", "state"]
abbrev p_top_next : List Str := ["play", "hand", "state"]
theorem sc_top_next : FnScope N_top_next p_top_next (defScope s_top_next) := ⟨rfl, rfl, rfl, by decide +kernel, rfl, by decide +kernel, by decide +kernel⟩

def sptop_next (K : PySem.W.Frag) : Sp := fun vs H Q _ => ∃ (p : Addr) (rows : List Int) (h : Nat) (v : V) (w : Int) (b : Bool), vs = [.ref p, vN h, v] ∧ Rp H v (dT (some (w, b))) ∧ ∀ H' a, Same H H' → Rp H' (.ref a) (.tup [.str (if b = true then "see" else "put")]) → Q (.ref a) H'
theorem wk_top_next (T : Fx K mg) (a_ : At K mg "top_next" s_top_next p_top_next) : Cl P w K mg base 1 "top_next" p_top_next (sptop_next K) := by
  refine a_.cl sc_top_next (fun vs H Q E h => ?_) (fun f_ cdv A outer s_ H vs Q E hr h => ?_)
  · obtain ⟨p, rows, h0, v, w, b, rfl, _⟩ := h
    rfl
  · obtain ⟨p, rows, h0, v, w, b, rfl, hv, q⟩ := h
    refine ⟨_, (pss_one (ps_ret (pe_ifExp (pt_val (pe_ix ix_tup (pv 2) (pe_un un_neg pe_int) (fun _ _ => rfl))) (pe_tup (pa_cons (pe_gl (by rfl) T.m_SEE) pa_nil)) (pe_tup (pa_cons (pe_gl (by rfl) T.m_PUT) pa_nil))))), ?_⟩
    obtain ⟨a, v1, v2, rfl, ha, r1, r2⟩ := rp2 hv
    obtain rfl := r1.int_inv
    obtain rfl := r2.bl_inv
    refine ⟨_, rfl, 1, rfl, a, _, -1, .bl b, rfl, rfl, sqT ha, at2 _ _, b, rfl, ?_⟩
    cases b with
    | true => exact iteT ⟨line (by simp), fun t nt => q _ t (same_new nt) (.mk1 upd_same (.str _))⟩
    | false => exact iteF ⟨line (by simp), fun t nt => q _ t (same_new nt) (.mk1 upd_same (.str _))⟩
abbrev s_wish_by : Stmt := top 66
abbrev N_wish_by : List Str := ["cells", "hand", "rank", "wished", "free", "cell", "other", "number"]
abbrev p_wish_by : List Str := ["cells", "hand"]
theorem sc_wish_by : FnScope N_wish_by p_wish_by (defScope s_wish_by) := ⟨rfl, rfl, rfl, by decide +kernel, rfl, by decide +kernel, by decide +kernel⟩

def spwish_by (K : PySem.W.Frag) : Sp := fun vs H Q _ => ∃ (c : Addr) (cvs : List V) (cells : List Cell) (h : Nat) (o w : Int), vs = [.ref c, vN h] ∧ H c = some (.tup cvs) ∧ RpL H cvs (cells.map dC) ∧ cells.length ≤ 5 ∧ cells.getD h none = some (o, w) ∧ ∀ H', Same H H' → Q (.int (wish cells h o)) H'
theorem wk_wish_by (T : Fx K mg) (a_ : At K mg "wish_by" s_wish_by p_wish_by) : Cl P w K mg base 1 "wish_by" p_wish_by (spwish_by K) := by
  refine a_.cl sc_wish_by (fun vs H Q E h => ?_) (fun f_ cdv A outer s_ H vs Q E hr h => ?_)
  · obtain ⟨c, cvs, cells, h0, o, w, rfl, _⟩ := h
    rfl
  · obtain ⟨c, cvs, cells, h0, o, w, rfl, hc, rc, h5, ho, q⟩ := h
    refine ⟨_, (pss_cons (ps_set (i := 2) sc_wish_by.nd rfl (by first | exact Or.inl rfl | exact Or.inr rfl) (pe_callB call_len_seq (by rfl) T.z_len (by decide +kernel) (pa_cons (pe_lc (own := [("cell", 5)]) (g := gName 5) rfl sc_wish_by.nd (pi_tup (pv 0)) (blkOk_by (own := [("cell", 5)]) (N := N_wish_by) (sc := defScope s_wish_by) (by decide +kernel)) (fun _ _ _ _ _ => (pg_name (i := 5) sc_wish_by.nd rfl (by first | exact Or.inl rfl | exact Or.inr rfl))) (fun _ _ _ _ _ => pts_one (PW.pt (pw_and (pt_cmpR op_notN (pv 5) pe_non (nomark _)) (pw_and1 (pt_cmpR op_lt (pe_ix (ix_tupK (K := K) rfl) (pv 5) pe_int (fun _ _ => rfl)) (pe_ix (ix_tupK (K := K) rfl) (pe_ix (ix_tupK (K := K) rfl) (pv 0) (pv 1) (fun _ _ => rfl)) pe_int (fun _ _ => rfl)) (nomark _)))))) (fun _ _ _ _ _ => (pv 5))) pa_nil)))
        (pss_cons (ps_set (i := 3) sc_wish_by.nd rfl (by first | exact Or.inl rfl | exact Or.inr rfl) (pe_lc (own := [("other", 6), ("cell", 5)]) (g := gTup K 2 (gCons (gName 6) (gCons (gName 5) gNil))) rfl sc_wish_by.nd (pi_enumA (by rfl) T.z_enumerate (pa_cons (pv 0) pa_nil)) (blkOk_by (own := [("other", 6), ("cell", 5)]) (N := N_wish_by) (sc := defScope s_wish_by) (by decide +kernel)) (fun _ _ _ _ _ => (pg_tup rfl (pgs_cons (pg_name (i := 6) sc_wish_by.nd rfl (by first | exact Or.inl rfl | exact Or.inr rfl)) (pgs_cons (pg_name (i := 5) sc_wish_by.nd rfl (by first | exact Or.inl rfl | exact Or.inr rfl)) pgs_nil)))) (fun _ _ _ _ _ => pts_one (PW.pt (pw_and (pt_cmpR op_ne (pv 6) (pv 1) (nomark _)) (pw_and1 (pt_cmpR op_notN (pv 5) pe_non (nomark _)))))) (fun _ _ _ _ _ => (pe_ix (ix_tupK (K := K) rfl) (pv 5) pe_int (fun _ _ => rfl)))))
        (pss_cons (ps_setLc (i := 4) (own := [("number", 7)]) (g := gName 7) rfl sc_wish_by.nd rfl rfl (sw_true rfl rfl rfl (by decide +kernel)) (pi_range2 (by rfl) T.z_range (pa_cons pe_int (pa_cons (pe_op op_add (pe_op op_mul pe_int (pe_callB call_len_seq (by rfl) T.z_len (by decide +kernel) (pa_cons (pv 0) pa_nil))) pe_int) pa_nil))) (blkOk_by (own := [("number", 7)]) (N := N_wish_by) (sc := defScope s_wish_by) (by decide +kernel)) (fun _ _ _ _ _ => (pg_name (i := 7) sc_wish_by.nd rfl (by first | exact Or.inl rfl | exact Or.inr rfl))) (fun _ _ _ _ _ => pts_one (pt_cmpR (op_notInK (K := K) rfl) (pv 7) (pv 3) (by rfl))) (fun _ _ _ _ _ => (pv 7)))
        (pss_one (ps_ret (pe_ix ix_list (pv 4) (pv 2) (fun _ _ => rfl))))))), ?_⟩
    have hh := lt_of_cell ho
    have hl := rc.len'
    obtain ⟨vh, hvh, rh⟩ := rc.getD hh none
    rw [ho] at rh
    obtain ⟨ah, v1, v2, rfl, hah, r1, r2⟩ := rp2 rh
    obtain rfl := r1.int_inv
    obtain rfl := r2.int_inv
    -- rank
    refine ⟨_, rfl, c, rfl, ⟨_, sqT hc⟩, fun D1 n1 => lc_sel walk_tup (fun i => (below o (cells.getD i none)).bind fun _ => cvs[i]?) n1 (fun H' s => sqT (s _ _ hc)) (by omega) (fun i x H1 H2 Kp Kn hi s y kp kn => ?_) (fun H1 s1 e1 => ?_)⟩
    · obtain ⟨rfl, hx⟩ := y
      obtain ⟨v, hv, rv⟩ := rc.getD (i := i) (by omega) none
      rw [hx] at hv
      obtain rfl := Option.some.inj hv
      refine ⟨rfl, _, rfl, rfl, _, rfl, ?_⟩
      rcases rpC (rv.same s) with ⟨ec, rfl⟩ | ⟨o', w', a', ec, rfl, ha'⟩
      · exact iteNS rfl (iteF (kn _ (Same.refl _) (by rw [ec]; rfl)))
      · refine iteNN (by simp) ⟨_, rfl, a', _, 0, _, rfl, rfl, sqT ha', atI_nat (j := 0) rfl, _, rfl, _, rfl, c, cvs, _, _, rfl, rfl, sqT (s _ _ hc), atI_nat hvh, ah, _, 0, _, rfl, rfl, sqT (s _ _ hah), atI_nat (j := 0) rfl, o', o, rfl, rfl, _, rfl, ?_⟩
        by_cases q1 : o' < o
        · rw [decide_eq_true q1]
          refine iteT ⟨_, rfl, kp _ _ (Same.refl _) ?_⟩
          rw [ec, show below o (some (o', w')) = some o' from if_pos q1]
          exact hx
        · rw [decide_eq_false q1]
          refine iteF (kn _ (Same.refl _) ?_)
          rw [ec, show below o (some (o', w')) = none from if_neg q1]
          rfl
    have erank : (sel cvs.length fun i => (below o (cells.getD i none)).bind fun _ => cvs[i]?).length = rank cells o := by
      unfold rank
      rw [hl]
      refine sel_len_eq fun i hi => ?_
      cases below o (cells.getD i none) with
      | none => simp
      | some z => simp; omega
    refine ⟨D1, _, rfl, .inl (sqL e1), ?_⟩
    rw [erank]
    -- wished
    have rc1 := rc.same s1
    have hc1 := s1 _ _ hc
    refine ⟨_, rfl, c, _, rfl, .inr ⟨sqT hc1, fun D2 n2 => lc_sel walk_enumT (fun i => if i = h0 then none else (cells.getD i none).map fun z => V.int z.2) n2 (fun H' s => sqT (s _ _ hc1)) (by omega) (fun i x H2 H3 Kp Kn hi s y kp kn => ?_) (fun H2 s2 e2 => ?_)⟩⟩
    · obtain ⟨Tt, x1, y1, rfl, nT, rfl, f1, f2⟩ := y
      obtain rfl := Option.some.inj f1
      obtain ⟨v, hv, rv⟩ := rc1.getD (i := i) (by omega) none
      have f2 : cvs[i]? = some y1 := f2
      rw [f2] at hv
      obtain rfl := Option.some.inj hv
      have sT := same_new (o := .tup [.int (i : Nat), y1]) nT
      refine ⟨Tt, _, rfl, sqT upd_same, rfl, _, _, rfl, _, _, rfl, rfl, rfl, ?_⟩
      refine ⟨_, rfl, _, rfl, rfl, _, rfl, ?_⟩
      by_cases e : i = h0
      · subst e
        exact iteNS rfl (iteF (kn _ sT (if_pos rfl)))
      · refine iteNN (by simp; omega) ⟨_, rfl, rfl, _, rfl, ?_⟩
        rcases rpC (rv.same s) with ⟨ec, rfl⟩ | ⟨o', w', a', ec, rfl, ha'⟩
        · exact iteNS rfl (kn _ sT (by rw [if_neg e, ec]; rfl))
        · refine iteNN (by simp) ⟨_, rfl, a', _, 1, _, rfl, rfl, sqT (sT _ _ ha'), atI_nat (j := 1) rfl, kp _ _ sT ?_⟩
          rw [if_neg e, ec]; rfl
    have e2' : H2 D2 = some (.lst ((taken cells h0).map V.int)) := by
      rw [e2, hl]
      unfold taken
      rw [sel_map]
      refine congrArg (fun z => some (HO.lst z)) (sel_congr fun i hi => ?_)
      by_cases e : i = h0
      · rw [if_pos e, if_pos e]; rfl
      · rw [if_neg e, if_neg e]
        cases cells.getD i none <;> rfl
    -- free
    have s12 := s1.trans s2
    refine ⟨_, rfl, c, _, rfl, .inr (sqT (s12 _ _ hc)), 2, _, rfl, rfl, .inl ⟨by decide, by decide⟩, _, 1, rfl, rfl, 1, _, rfl, ⟨by decide, by decide, by omega, by omega⟩, fun D3 n3 => lc_sel walk_range (fun i => if ((i : Int) + 1) ∈ taken cells h0 then none else some (V.int ((i : Int) + 1))) n3 (fun _ _ => trivial) (by omega) (fun i x H3 H4 Kp Kn hi s y kp kn => ?_) (fun H3 s3 e3 => ?_)⟩
    · obtain ⟨rfl, rfl⟩ := y
      refine ⟨rfl, _, rfl, _, rfl, D2, _, rfl, .inl (sqL (s _ _ e2')), rfl, flat_ints _, _, rfl, ?_⟩
      show if (!inV (.int (1 + (i : Int))) ((taken cells h0).map V.int)) = true then _ else _
      rw [inV_ints, Int.add_comm 1 (i : Int)]
      by_cases e : ((i : Int) + 1) ∈ taken cells h0
      · exact iteNS e (kn _ (Same.refl _) (if_pos e))
      · exact iteNN e ⟨_, rfl, kp _ _ (Same.refl _) (by rw [if_neg e]; show some (V.int ((i : Int) + 1)) = some (V.int (1 + (i : Int))); rw [Int.add_comm])⟩
    have e3' : H3 D3 = some (.lst ((frees (taken cells h0) (2 * cells.length)).map V.int)) := by
      rw [e3]
      unfold frees
      rw [sel_map, show (2 * ((cvs.length : Nat) : Int) + 1 - 1).toNat = 2 * cells.length by omega]
      refine congrArg (fun z => some (HO.lst z)) (sel_congr fun i hi => ?_)
      by_cases e : ((i : Int) + 1) ∈ taken cells h0
      · rw [if_pos e, if_pos e]; rfl
      · rw [if_neg e, if_neg e]; rfl
    refine ⟨_, rfl, _, rfl, D3, _, _, _, rfl, rfl, sqL e3', atI_nat (v := .int (wish cells h0 o)) ?_, q _ (s12.trans s3)⟩
    rw [List.getElem?_map, wish_get ho]
    rfl
abbrev s_after_names : Stmt := top 67
abbrev N_after_names : List Str := ["play", "hand", "cells", "state", "wish", "is_put", "others", "other", "cell"]
abbrev p_after_names : List Str := ["play", "hand", "cells", "state"]
theorem sc_after_names : FnScope N_after_names p_after_names (defScope s_after_names) := ⟨rfl, rfl, rfl, by decide +kernel, rfl, by decide +kernel, by decide +kernel⟩

def spafter (K : PySem.W.Frag) : Sp := fun vs H Q _ => ∃ (p : Addr) (rows : List Int) (c : Addr) (cvs : List V) (cells : List Cell) (h : Nat) (v : V) (w : Int) (b : Bool), vs = [.ref p, vN h, .ref c, v] ∧ PlayAt K H p rows ∧ H c = some (.tup cvs) ∧ RpL H cvs (cells.map dC) ∧
  cells.length = rows.length ∧ rows.length ≤ 5 ∧ h < rows.length ∧ Rp H v (dT (some (w, b))) ∧ (b = true → cells.getD h none = some (rows.getD h 0, w)) ∧ ∀ H' a, Same H H' → Rp H' (.ref a) (dA (aft rows cells h w b)) → Q (.ref a) H'
abbrev spafter_names (K : PySem.W.Frag) : Sp := spafter K
abbrev sptop_after (K : PySem.W.Frag) : Sp := spafter K
abbrev spafter_of (K : PySem.W.Frag) : Sp := spafter K
theorem wk_after_names (T : Fx K mg) (a_ : At K mg "after_names" s_after_names p_after_names) (c_wish_by : Cl P w K mg base 1 "wish_by" p_wish_by (spwish_by K)) : Cl P w K mg base 2 "after_names" p_after_names (spafter_names K) := by
  refine a_.cl sc_after_names (fun vs H Q E h => ?_) (fun f_ cdv A outer s_ H vs Q E hr h => ?_)
  · obtain ⟨p, rows, c, cvs, cells, h0, v, w, b, rfl, _⟩ := h
    rfl
  · obtain ⟨p, rows, c, cvs, cells, h0, v, w, b, rfl, hp, hc, rc, lc, h5, hh, hv, hb, q⟩ := h
    refine ⟨_, (pss_cons (ps_asg (pv 3) (pg_tup rfl (pgs_cons (pg_name (i := 4) sc_after_names.nd rfl (by first | exact Or.inl rfl | exact Or.inr rfl)) (pgs_cons (pg_name (i := 5) sc_after_names.nd rfl (by first | exact Or.inl rfl | exact Or.inr rfl)) pgs_nil))))
        (pss_cons (ps_if (pt_not (pt_val (pv 5))) (pss_one (ps_ret (pe_tup (pa_cons (pe_tup (pa_cons (pe_ix ix_tup (pe_fld (pv 0) rfl) (pv 1) (fun _ _ => rfl)) (pa_cons (pv 4) pa_nil))) (pa_cons (pe_tup (pa_cons (pv 4) (pa_cons pe_bl pa_nil))) (pa_cons pe_non pa_nil)))))) pss_nil)
        (pss_cons (ps_setLc (i := 6) (own := [("other", 7), ("cell", 8)]) (g := gTup K 2 (gCons (gName 7) (gCons (gName 8) gNil))) rfl sc_after_names.nd rfl rfl (sw_true rfl rfl rfl (by decide +kernel)) (pi_enumA (by rfl) T.z_enumerate (pa_cons (pv 2) pa_nil)) (blkOk_by (own := [("other", 7), ("cell", 8)]) (N := N_after_names) (sc := defScope s_after_names) (by decide +kernel)) (fun _ _ _ _ _ => (pg_tup rfl (pgs_cons (pg_name (i := 7) sc_after_names.nd rfl (by first | exact Or.inl rfl | exact Or.inr rfl)) (pgs_cons (pg_name (i := 8) sc_after_names.nd rfl (by first | exact Or.inl rfl | exact Or.inr rfl)) pgs_nil)))) (fun _ _ _ _ _ => pts_one (PW.pt (pw_and (pt_cmpR op_ne (pv 7) (pv 1) (nomark _)) (pw_and1 (pt_cmpR op_notN (pv 8) pe_non (nomark _)))))) (fun _ _ _ _ _ => (pv 8)))
        (pss_cons (ps_if (pt_cmpR op_notIn_seq (pv 4) (pe_lc (own := [("cell", 8)]) (g := gName 8) rfl sc_after_names.nd (pi_list (pv 6)) (blkOk_by (own := [("cell", 8)]) (N := N_after_names) (sc := defScope s_after_names) (by decide +kernel)) (fun _ _ _ _ _ => (pg_name (i := 8) sc_after_names.nd rfl (by first | exact Or.inl rfl | exact Or.inr rfl))) (fun _ _ _ _ _ => pts_nil) (fun _ _ _ _ _ => (pe_ix (ix_tupK (K := K) rfl) (pv 8) pe_int (fun _ _ => rfl)))) (by rfl)) (pss_one (ps_ret (pe_tup (pa_cons pe_non (pa_cons pe_non (pa_cons (pv 4) pa_nil)))))) pss_nil)
        (pss_one (ps_ret (pe_tup (pa_cons pe_non (pa_cons (pe_tup (pa_cons (pe_cl c_wish_by hr (by decide) (by rfl) (pa_cons (pv 2) (pa_cons (pv 1) pa_nil))) (pa_cons pe_bl pa_nil))) (pa_cons pe_non pa_nil)))))))))), ?_⟩
    have hl := rc.len'
    obtain ⟨a, v1, v2, rfl, ha, r1, r2⟩ := rp2 hv
    obtain rfl := r1.int_inv
    obtain rfl := r2.bl_inv
    refine ⟨_, rfl, a, _, rfl, sqT ha, rfl, _, _, rfl, _, _, rfl, rfl, ?_⟩
    refine ⟨_, rfl, b, rfl, ?_⟩
    cases b with
    | false =>
      obtain ⟨dx, r, hp1, hr2, l1, _⟩ := play_rows hp
      refine iteNF ⟨_, rfl, p, _, dx, _, _, rfl, hp1, T.cl, T.nR, l1, _, rfl, r, _, (h0 : Int), _, rfl, rfl, sqT hr2, atI_nat (v := .int (rows.getD h0 0)) (by rw [List.getElem?_map, gd_get rows h0 0 hh]; rfl), _, rfl, line (by simp), fun t1 m1 => ⟨_, rfl, line (by simp), fun t2 m2 => ⟨line (by simp), fun t3 m3 => ?_⟩⟩⟩
      have u2 := same_new (o := .tup [.int w, .bl true]) m2
      have u3 := same_new (o := .tup [.ref t1, .ref t2, .non]) m3
      refine q _ t3 (sNew (sNew (same_new m1) m2) m3) (.mk3 upd_same ?_ ?_ .non)
      · exact .mk2 (u3 _ _ (u2 _ _ upd_same)) (.int _) (.int _)
      · exact .mk2 (u3 _ _ upd_same) (.int _) (.bl _)
    | true =>
      refine iteNT ?_
      have ho := hb rfl
      -- others
      refine ⟨_, rfl, c, _, rfl, .inr ⟨sqT hc, fun D1 n1 => lc_sel walk_enumT (fun i => if i = h0 then none else (cells.getD i none).bind fun _ => cvs[i]?) n1 (fun H' s => sqT (s _ _ hc)) (by omega) (fun i x H1 H2 Kp Kn hi s y kp kn => ?_) (fun H1 s1 e1 => ?_)⟩⟩
      · obtain ⟨Tt, x1, y1, rfl, nT, rfl, f1, f2⟩ := y
        obtain rfl := Option.some.inj f1
        obtain ⟨v, hv2, rv⟩ := rc.getD (i := i) (by omega) none
        have f2 : cvs[i]? = some y1 := f2
        rw [f2] at hv2
        obtain rfl := Option.some.inj hv2
        have sT := same_new (o := .tup [.int (i : Nat), y1]) nT
        refine ⟨Tt, _, rfl, sqT upd_same, rfl, _, _, rfl, _, _, rfl, rfl, rfl, ?_⟩
        refine ⟨_, rfl, _, rfl, rfl, _, rfl, ?_⟩
        by_cases e : i = h0
        · subst e
          exact iteNS rfl (iteF (kn _ sT (if_pos rfl)))
        · refine iteNN (by simp; omega) ⟨_, rfl, rfl, _, rfl, ?_⟩
          rcases rpC (rv.same s) with ⟨ec, rfl⟩ | ⟨o', w', a', ec, rfl, ha'⟩
          · exact iteNS rfl (kn _ sT (by rw [if_neg e, ec]; rfl))
          · exact iteNN (by simp) ⟨_, rfl, kp _ _ sT (by rw [if_neg e, ec]; exact f2)⟩
      have ro : RpL H1 (sel cvs.length fun i => if i = h0 then none else (cells.getD i none).bind fun _ => cvs[i]?) ((sel cells.length fun i => if i = h0 then none else cells.getD i none).map fun z => dC (some z)) := by
        rw [sel_map, hl]
        refine rpl_sel fun i hi => ?_
        by_cases e : i = h0
        · rw [if_pos e, if_pos e]; exact .inl ⟨rfl, rfl⟩
        · rw [if_neg e, if_neg e]
          obtain ⟨v, hv2, rv⟩ := (rc.same s1).getD (i := i) hi none
          cases ec : cells.getD i none with
          | none => exact .inl ⟨rfl, rfl⟩
          | some z => rw [ec] at rv; exact .inr ⟨v, _, hv2, rfl, rv⟩
      generalize hov : (sel cvs.length fun i => if i = h0 then none else (cells.getD i none).bind fun _ => cvs[i]?) = ovs at e1 ro
      generalize hoc : (sel cells.length fun i => if i = h0 then none else cells.getD i none) = ocs at ro
      have htk : ocs.map (·.2) = taken cells h0 := by
        rw [← hoc, sel_map]
        refine sel_congr fun i hi => ?_
        by_cases e : i = h0
        · rw [if_pos e, if_pos e]; rfl
        · rw [if_neg e, if_neg e]
      have lo : ovs.length ≤ 5 := by rw [← hov]; exact Nat.le_trans (sel_len _ _) (by omega)
      -- their wishes
      refine ⟨_, rfl, _, rfl, D1, rfl, ⟨_, sqL e1⟩, fun D2 n2 => lc_sel walk_list (fun i => ocs[i]?.map fun z => V.int z.2) n2 (fun H' s => sqL (s _ _ e1)) (by omega) (fun i x H2 H3 Kp Kn hi s y kp kn => ?_) (fun H2 s2 e2 => ?_)⟩
      · obtain ⟨rfl, hx⟩ := y
        have hio : i < ocs.length := by rw [← ro.len']; exact hi
        obtain ⟨v, hv2, rv⟩ := ro.get (i := i) (d := dC (some ocs[i])) (by rw [List.getElem?_map, List.getElem?_eq_getElem hio]; rfl)
        rw [hx] at hv2
        obtain rfl := Option.some.inj hv2
        rcases rpC (rv.same s) with ⟨ec, _⟩ | ⟨o', w', a', ec, rfl, ha'⟩
        · cases ec
        · refine ⟨rfl, yes ⟨_, rfl, a', _, 1, _, rfl, rfl, sqT ha', atI_nat (j := 1) rfl, kp _ _ (Same.refl _) ?_⟩⟩
          rw [List.getElem?_eq_getElem hio]
          rw [Option.some.inj ec]; rfl
      have e2' : H2 D2 = some (.lst ((taken cells h0).map V.int)) := by
        rw [e2, ro.len', ← htk]
        have z := sel_map ocs.length (fun i => ocs[i]?) (fun z : Int × Int => V.int z.2)
        rw [sel_get] at z
        rw [← z, List.map_map]
        rfl
      refine ⟨D2, _, rfl, .inl (sqL e2'), rfl, flat_ints _, _, rfl, ?_⟩
      show if (!inV (.int w) ((taken cells h0).map V.int)) = true then _ else _
      rw [inV_ints]
      have s12 := s1.trans s2
      by_cases e : w ∈ taken cells h0
      · refine iteNS e ⟨_, rfl, _, rfl, c, cvs, cells, h0, _, w, rfl, s12 _ _ hc, rc.same s12, by omega, ho, fun H3 s3 => ⟨line (by simp), fun t1 m1 => ⟨line (by simp), fun t2 m2 => ?_⟩⟩⟩
        refine q _ t2 (sNew (sNew (s12.trans s3) m1) m2) ?_
        rw [show aft rows cells h0 w true = (none, some (wish cells h0 (rows.getD h0 0), false), none) from by unfold aft; rw [if_pos rfl, if_pos e]]
        exact .mk3 upd_same .non (.mk2 (same_new m2 _ _ upd_same) (.int _) (.bl _)) .non
      · refine iteNN e ⟨_, rfl, line (by simp), fun t1 m1 => ?_⟩
        refine q _ t1 (sNew s12 m1) ?_
        rw [show aft rows cells h0 w true = (none, none, some w) from by unfold aft; rw [if_pos rfl, if_neg e]]
        exact .mk3 upd_same .non .non (.int _)
abbrev s_top_after : Stmt := top 70
abbrev N_top_after : List Str := ["play", "hand", "cells", "state"]
abbrev p_top_after : List Str := ["play", "hand", "cells", "state"]
theorem sc_top_after : FnScope N_top_after p_top_after (defScope s_top_after) := ⟨rfl, rfl, rfl, by decide +kernel, rfl, by decide +kernel, by decide +kernel⟩

theorem wk_top_after (T : Fx K mg) (a_ : At K mg "top_after" s_top_after p_top_after) (c_after_names : Cl P w K mg base 2 "after_names" p_after_names (spafter_names K)) : Cl P w K mg base 3 "top_after" p_top_after (sptop_after K) := by
  refine a_.cl sc_top_after (fun vs H Q E h => ?_) (fun f_ cdv A outer s_ H vs Q E hr h => ?_)
  · obtain ⟨p, rows, c, cvs, cells, h0, v, w, b, rfl, _⟩ := h
    rfl
  · obtain ⟨p, rows, c, cvs, cells, h0, v, w, b, rfl, hp, hc, rc, lc, h5, hh, hv, hb, q⟩ := h
    refine ⟨_, (pss_cons (ps_if (pt_cmpR op_eq (pe_fld (pv 0) rfl) (pe_gl (by rfl) T.m_NAMES) (nomark _)) (pss_one (ps_ret (pe_cl c_after_names hr (by decide) (by rfl) (pa_cons (pv 0) (pa_cons (pv 1) (pa_cons (pv 2) (pa_cons (pv 3) pa_nil))))))) pss_nil)
        pss_never), ?_⟩
    exact test_kind T hp rfl is_names (iteT ⟨_, rfl, _, rfl, _, rfl, _, rfl, p, rows, c, cvs, cells, h0, v, w, b, rfl, hp, hc, rc, lc, h5, hh, hv, hb, q⟩)
/-! ### runs -/
abbrev s_cell_of : Stmt := top 72
abbrev N_cell_of : List Str := ["play", "hand"]
abbrev p_cell_of : List Str := ["play", "hand"]
theorem sc_cell_of : FnScope N_cell_of p_cell_of (defScope s_cell_of) := ⟨rfl, rfl, rfl, by decide +kernel, rfl, by decide +kernel, by decide +kernel⟩

abbrev spcell_of (K : PySem.W.Frag) : Sp := sptop_cell K
theorem wk_cell_of (T : Fx K mg) (a_ : At K mg "cell_of" s_cell_of p_cell_of) (c_top_cell : Cl P w K mg base 1 "top_cell" p_top_cell (sptop_cell K)) : Cl P w K mg base 2 "cell_of" p_cell_of (spcell_of K) := by
  refine a_.cl sc_cell_of (fun vs H Q E h => ?_) (fun f_ cdv A outer s_ H vs Q E hr h => ?_)
  · obtain ⟨p, rows, h0, rfl, _⟩ := h
    rfl
  · obtain ⟨p, rows, h0, rfl, hp, q⟩ := h
    refine ⟨_, (pss_cons (ps_if (pt_cmpR op_in_seq (pe_fld (pv 0) rfl) (pe_gl (by rfl) T.m_MANNERS) (by rfl)) pss_never pss_nil)
        (pss_one (ps_ret (pe_ifExp (pt_cmpR op_eq (pe_fld (pv 0) rfl) (pe_gl (by rfl) T.m_LEVELS) (nomark _)) pe_never (pe_cl c_top_cell hr (by decide) (by rfl) (pa_cons (pv 0) (pa_cons (pv 1) pa_nil))))))), ?_⟩
    exact test_manner T hp rfl (iteF (test_kind T hp rfl not_levels (iteF ⟨_, rfl, _, rfl, p, rows, h0, rfl, hp, q⟩)))
abbrev s_state_of : Stmt := top 73
abbrev N_state_of : List Str := ["play", "hand"]
abbrev p_state_of : List Str := ["play", "hand"]
theorem sc_state_of : FnScope N_state_of p_state_of (defScope s_state_of) := ⟨rfl, rfl, rfl, by decide +kernel, rfl, by decide +kernel, by decide +kernel⟩

abbrev spstate_of (K : PySem.W.Frag) : Sp := sptop_state K
theorem wk_state_of (T : Fx K mg) (a_ : At K mg "state_of" s_state_of p_state_of) (c_top_state : Cl P w K mg base 1 "top_state" p_top_state (sptop_state K)) : Cl P w K mg base 2 "state_of" p_state_of (spstate_of K) := by
  refine a_.cl sc_state_of (fun vs H Q E h => ?_) (fun f_ cdv A outer s_ H vs Q E hr h => ?_)
  · obtain ⟨p, rows, h0, rfl, _⟩ := h
    rfl
  · obtain ⟨p, rows, h0, rfl, hp, q⟩ := h
    refine ⟨_, (pss_cons (ps_if (pt_cmpR op_in_seq (pe_fld (pv 0) rfl) (pe_gl (by rfl) T.m_MANNERS) (by rfl)) pss_never pss_nil)
        (pss_one (ps_ret (pe_ifExp (pt_cmpR op_eq (pe_fld (pv 0) rfl) (pe_gl (by rfl) T.m_LEVELS) (nomark _)) pe_never (pe_cl c_top_state hr (by decide) (by rfl) (pa_cons (pv 0) (pa_cons (pv 1) pa_nil))))))), ?_⟩
    exact test_manner T hp rfl (iteF (test_kind T hp rfl not_levels (iteF ⟨_, rfl, _, rfl, p, rows, h0, rfl, hp, q⟩)))
abbrev s_next_of : Stmt := top 74
abbrev N_next_of : List Str := ["play", "hand", "state"]
abbrev p_next_of : List Str := ["play", "hand", "state"]
theorem sc_next_of : FnScope N_next_of p_next_of (defScope s_next_of) := ⟨rfl, rfl, rfl, by decide +kernel, rfl, by decide +kernel, by decide +kernel⟩

def spnext_of (K : PySem.W.Frag) : Sp := fun vs H Q _ => ∃ (p : Addr) (rows : List Int) (h : Nat) (v : V) (w : Int) (b : Bool), vs = [.ref p, vN h, v] ∧ PlayAt K H p rows ∧ Rp H v (dT (some (w, b))) ∧ ∀ H' a, Same H H' → Rp H' (.ref a) (.tup [.str (if b = true then "see" else "put")]) → Q (.ref a) H'
theorem wk_next_of (T : Fx K mg) (a_ : At K mg "next_of" s_next_of p_next_of) (c_top_next : Cl P w K mg base 1 "top_next" p_top_next (sptop_next K)) : Cl P w K mg base 2 "next_of" p_next_of (spnext_of K) := by
  refine a_.cl sc_next_of (fun vs H Q E h => ?_) (fun f_ cdv A outer s_ H vs Q E hr h => ?_)
  · obtain ⟨p, rows, h0, v, w, b, rfl, _⟩ := h
    rfl
  · obtain ⟨p, rows, h0, v, w, b, rfl, hp, hv, q⟩ := h
    refine ⟨_, (pss_cons (ps_if (pt_cmpR op_in_seq (pe_fld (pv 0) rfl) (pe_gl (by rfl) T.m_MANNERS) (by rfl)) pss_never pss_nil)
        (pss_one (ps_ret (pe_ifExp (pt_cmpR op_eq (pe_fld (pv 0) rfl) (pe_gl (by rfl) T.m_LEVELS) (nomark _)) pe_never (pe_cl c_top_next hr (by decide) (by rfl) (pa_cons (pv 0) (pa_cons (pv 1) (pa_cons (pv 2) pa_nil)))))))), ?_⟩
    exact test_manner T hp rfl (iteF (test_kind T hp rfl not_levels (iteF ⟨_, rfl, _, rfl, _, rfl, p, rows, h0, v, w, b, rfl, hv, q⟩)))
abbrev s_after_of : Stmt := top 75
abbrev N_after_of : List Str := ["play", "hand", "cells", "state"]
abbrev p_after_of : List Str := ["play", "hand", "cells", "state"]
theorem sc_after_of : FnScope N_after_of p_after_of (defScope s_after_of) := ⟨rfl, rfl, rfl, by decide +kernel, rfl, by decide +kernel, by decide +kernel⟩

theorem wk_after_of (T : Fx K mg) (a_ : At K mg "after_of" s_after_of p_after_of) (c_top_after : Cl P w K mg base 3 "top_after" p_top_after (sptop_after K)) : Cl P w K mg base 4 "after_of" p_after_of (spafter_of K) := by
  refine a_.cl sc_after_of (fun vs H Q E h => ?_) (fun f_ cdv A outer s_ H vs Q E hr h => ?_)
  · obtain ⟨p, rows, c, cvs, cells, h0, v, w, b, rfl, _⟩ := h
    rfl
  · obtain ⟨p, rows, c, cvs, cells, h0, v, w, b, rfl, hp, hc, rc, lc, h5, hh, hv, hb, q⟩ := h
    refine ⟨_, (pss_cons (ps_if (pt_cmpR op_in_seq (pe_fld (pv 0) rfl) (pe_gl (by rfl) T.m_MANNERS) (by rfl)) pss_never pss_nil)
        (pss_one (ps_ret (pe_ifExp (pt_cmpR op_eq (pe_fld (pv 0) rfl) (pe_gl (by rfl) T.m_LEVELS) (nomark _)) pe_never (pe_cl c_top_after hr (by decide) (by rfl) (pa_cons (pv 0) (pa_cons (pv 1) (pa_cons (pv 2) (pa_cons (pv 3) pa_nil))))))))), ?_⟩
    exact test_manner T hp rfl (iteF (test_kind T hp rfl not_levels (iteF ⟨_, rfl, _, rfl, _, rfl, _, rfl, p, rows, c, cvs, cells, h0, v, w, b, rfl, hp, hc, rc, lc, h5, hh, hv, hb, q⟩)))
end
end Nm


set_option Elab.async false
set_option linter.all false
set_option maxRecDepth 100000
set_option maxHeartbeats 4000000
namespace Nm
open PySem PySem.Spec PyProof.Rows L2
/-! ### comprehensions whose items are told as data -/
section
variable {J : It} {n : Nat} {G : Hp → Prop} {Y : Nat → Hp → V → Hp → Prop}
theorem lc_rp (w : Walk J n G Y) (f : Nat → Option D) {g : TG} {tt : TT} {te : TE} {vs : List Nat} {σ : L2.St} {H1 : Hp} {Dl : Addr} {Qd : Hp → Prop} (hD : H1 Dl = none) (hG : ∀ H, Same H1 H → G H) (hn : n ≤ 100000)
    (hs : ∀ (i : Nat) (x : V) (H H' : Hp) (Kp : V → Hp → Prop) (Kn : Hp → Prop), i < n → Same H1 H → Y i H x H' → (∀ y d H4, Same H H4 → f i = some d → Rp H4 y d → Kp y H4) → (∀ H3, Same H H3 → f i = none → Kn H3) →
      g x (wipe σ vs) H' fun σ2 H2 => wipe σ2 vs = wipe σ vs ∧ tt σ2 H2 fun b H3 => if b = true then te σ2 H3 Kp else Kn H3)
    (hd : ∀ H acc, Same H1 H → H Dl = some (.lst acc) → RpL H acc (sel n f) → Qd H) :
    ∃ W : Nat → Nat → Hp → Prop, (∃ m, W 0 m (upd H1 Dl (.lst []))) ∧ ∀ i m H, W i m H →
      (J.stop i H ∧ Qd H) ∨ (J.go i H ∧ ∃ Nx : Hp → Prop, (∀ H', Nx H' → ∃ m', m' < m ∧ W (i + 1) m' H') ∧ ∀ x H', J.yld i H x H' → g x (wipe σ vs) H' fun σ2 H2 => wipe σ2 vs = wipe σ vs ∧ tt σ2 H2 fun b H3 =>
        if b = true then te σ2 H3 fun y H4 => ∃ acc, H4 Dl = some (.lst acc) ∧ acc.length < sizeLine ∧ Nx (upd H4 Dl (.lst (acc ++ [y]))) else Nx H3) := by
  refine lc_it w (fun i H => Same H1 H ∧ ∃ acc, H Dl = some (.lst acc) ∧ RpL H acc (sel i f)) ⟨same_new hD, [], upd_same, .nil⟩ (fun i H _ p => hG H p.1) (fun i x H H' hi p y => ?_) fun H p => by
    obtain ⟨s, acc, e, r⟩ := p
    exact hd H acc s e r
  obtain ⟨s1, acc, e1, r1⟩ := p
  refine hs i x H H' (fun y H4 => ∃ acc, H4 Dl = some (.lst acc) ∧ acc.length < sizeLine ∧ (Same H1 (upd H4 Dl (.lst (acc ++ [y]))) ∧ ∃ acc', upd H4 Dl (.lst (acc ++ [y])) Dl = some (.lst acc') ∧ RpL (upd H4 Dl (.lst (acc ++ [y]))) acc' (sel (i + 1) f)))
    (fun H3 => Same H1 H3 ∧ ∃ acc, H3 Dl = some (.lst acc) ∧ RpL H3 acc (sel (i + 1) f)) hi s1 y (fun y d H4 s4 fy ry => ?_) (fun H3 s3 fn => ?_)
  · have e4 := s4 _ _ e1
    have kt : ∀ b xs, H4 b = some (.tup xs) → upd H4 Dl (.lst (acc ++ [y])) b = some (.tup xs) := fun b xs e => by
      rw [upd_ne (ne_of e e4 (by intro z; cases z))]; exact e
    refine ⟨acc, e4, line' (Nat.le_trans (Nat.le_of_eq r1.len) (Nat.le_trans (sel_len i f) (by omega))), sPut (s1.trans s4) hD, acc ++ [y], upd_same, ?_⟩
    rw [sel_some fy]
    exact ((r1.same s4).keep kt).snoc (ry.keep kt)
  · exact ⟨s1.trans s3, acc, s3 _ _ e1, by rw [sel_none fn]; exact r1.same s3⟩
end
theorem at_last {xs : List V} {v : V} (h : xs[xs.length - 1]? = some v) : atI xs (-1) = some v := by
  have hl := lt_of_at h
  have e : xs = xs.take (xs.length - 1) ++ [v] := by
    have z := List.take_add_one (l := xs) (i := xs.length - 1)
    rw [h, show xs.length - 1 + 1 = xs.length by omega, List.take_length] at z
    exact z
  rw [e]
  exact atI_last _ _
theorem eq_put {K : PySem.W.Frag} {H : Hp} {x : V} {b : Bool} (h : Rp H x (.tup [.str (if b = true then "see" else "put")])) {t : Addr} (ht : H t = some (.tup [.str "put"])) {Q : VK} (q : Q (.bl (!b)) H) : rEqD K x (.ref t) H Q := by
  obtain ⟨a, vs, rfl, ha, r⟩ := h.inv
  match vs, r with
  | [v], r =>
    have e := (r.at_ 0 _ _ rfl rfl).str_inv
    subst e
    refine ⟨.tuple [.str (if b = true then "see" else "put")], .tuple [.str "put"], .tup (sqT ha) (.cons (.str _) .nil), .tup (sqT ht) (.cons (.str _) .nil), ?_, by decide +kernel, ?_⟩
    · cases b <;> decide +kernel
    · cases b with
      | true =>
        rw [show PyData.eqv (.tuple [.str (if true = true then "see" else "put")]) (.tuple [.str "put"]) = false from by decide +kernel]
        exact q
      | false =>
        rw [show PyData.eqv (.tuple [.str (if false = true then "see" else "put")]) (.tuple [.str "put"]) = true from by decide +kernel]
        exact q
  | [], r => have := r.len; simp at this
  | _ :: _ :: _, r => have := r.len; simp at this
/-- enumerate of a list or a tuple -/
theorem enumA {K : PySem.W.Frag} {H1 : Hp} {a : Addr} {xs : List V} {R : It → Hp → Prop} (h : H1 a = some (.lst xs) ∨ H1 a = some (.tup xs))
    (k : ∀ (J : It) (G : Hp → Prop), Walk J xs.length G (YPair (fun i => some (.int (i : Nat))) (fun i => xs[i]?)) → (∀ H', H' a = H1 a → G H') → R J H1) :
    ∃ (a' : Addr) (xs' : List V), [V.ref a] = [.ref a'] ∧ ((SqL K H1 a' xs' ∧ R (Ite K a') H1) ∨ (SqT K H1 a' xs' ∧ R (IteT K a') H1)) := by
  rcases h with h | h
  · exact ⟨a, xs, rfl, .inl ⟨sqL h, k _ _ walk_enum fun H' s => sqL (s.trans h)⟩⟩
  · exact ⟨a, xs, rfl, .inr ⟨sqT h, k _ _ walk_enumT fun H' s => sqT (s.trans h)⟩⟩
/-- what a for asks behind its iterable -/
def forB (g : TG) (tb : TS) (Z : Ends) (σ : L2.St) (J : It) (H1 : Hp) : Prop := ∃ W : Nat → Nat → L2.St → Hp → Prop, (∃ m, W 0 m σ H1) ∧ ∀ i m σ H, W i m σ H → (J.stop i H ∧ Z.nx σ H) ∨ (J.go i H ∧ ∃ N : L2.St → Hp → Prop,
  (∀ σ' H', N σ' H' → ∃ m', m' < m ∧ W (i + 1) m' σ' H') ∧ ∀ x H', J.yld i H x H' → g x σ H' fun σ2 H2 => tb { Z with nx := N, ct := N, bk := Z.nx } σ2 H2)
theorem forEnum {K : PySem.W.Frag} {j : Nat} {g : TG} {tb : TS} {Z : Ends} {σ : L2.St} {H1 : Hp} {a : Addr} {xs : List V} (h0 : σ[j]? = some (some (.ref a))) (h : H1 a = some (.lst xs) ∨ H1 a = some (.tup xs))
    (k : ∀ (J : It) (G : Hp → Prop), Walk J xs.length G (YPair (fun i => some (.int (i : Nat))) (fun i => xs[i]?)) → (∀ H', H' a = H1 a → G H') → forB g tb Z σ J H1) : tFor (iEnumA K (tCons (tVar j) tNil)) g tb Z σ H1 :=
  ⟨_, h0, enumA (R := forB g tb Z σ) h k⟩
theorem sel_rep {β : Type} (n : Nat) (d : β) : (sel n fun _ => some d) = List.replicate n d := by
  induction n with
  | zero => rfl
  | succ n ih => rw [sel_some (f := fun _ => some d) rfl, ih, List.replicate_succ']
theorem map_rep {α β : Type} (n : Nat) (x : α) (f : α → β) : (List.replicate n x).map f = List.replicate n (f x) := by simp
/-- all standings of a weaving -/
def stood (rows : List Int) (W : List Nat) : List Sd := (List.range (W.length + 1)).map fun j => runW rows (W.take j)
theorem stood_len (rows : List Int) (W : List Nat) : (stood rows W).length = W.length + 1 := by simp [stood]
theorem stood_at {rows : List Int} {W : List Nat} {j : Nat} (h : j ≤ W.length) : (stood rows W)[j]? = some (runW rows (W.take j)) := by
  unfold stood
  rw [List.getElem?_map, List.getElem?_range (by omega)]
  rfl
theorem stood_snoc (rows : List Int) (W : List Nat) (h : Nat) : stood rows (W ++ [h]) = stood rows W ++ [moved rows (runW rows W) h] := by
  unfold stood
  rw [List.length_append, List.length_singleton, List.range_succ, List.map_append]
  congr 1
  · refine List.map_congr_left fun j hj => ?_
    rw [List.take_append_of_le_length (by have := List.mem_range.mp hj; omega)]
  · show [runW rows ((W ++ [h]).take (W.length + 1))] = _
    rw [List.take_of_length_le (by simp), runW_snoc]
theorem take_snoc {α : Type} {xs : List α} {i : Nat} {x : α} (h : xs[i]? = some x) : xs.take (i + 1) = xs.take i ++ [x] := by
  rw [List.take_add_one, h]; rfl
theorem out_small {rows : List Int} {W : List Nat} (v : Valid rows W) (h5 : rows.length ≤ 5) {j : Nat} (h : left (outN rows j (W, runW rows W)).2 ≠ []) : j < 20 := by
  by_cases q : j < 20
  · exact q
  · exact absurd (out_left v h5 (by omega)) h
end Nm


set_option Elab.async false
set_option linter.all false
set_option maxRecDepth 100000
set_option maxHeartbeats 8000000
namespace Nm
open PySem PySem.Spec PyProof.Rows L2
theorem rpS {H : Hp} {v : V} {S : Sd} (r : Rp H v (dS S)) : ∃ a c s t cvs svs tvs, v = .ref a ∧ H a = some (.tup [.ref c, .ref s, .ref t]) ∧ H c = some (.tup cvs) ∧ RpL H cvs (S.cells.map dC) ∧ H s = some (.tup svs) ∧ RpL H svs (S.states.map dT) ∧ H t = some (.tup tvs) ∧ RpL H tvs (S.told.map dW) := by
  obtain ⟨a, v1, v2, v3, rfl, h, r1, r2, r3⟩ := rp3 r
  obtain ⟨c, cvs, rfl, hc, rc⟩ := r1.inv
  obtain ⟨s, svs, rfl, hs, rs⟩ := r2.inv
  obtain ⟨t, tvs, rfl, ht, rt⟩ := r3.inv
  exact ⟨a, c, s, t, cvs, svs, tvs, rfl, h, hc, rc, hs, rs, ht, rt⟩
/-- a weaving stands at a: a list or a tuple of hands -/
def Wv (H : Hp) (a : Addr) (W : List Nat) : Prop := H a = some (.lst (W.map vN)) ∨ H a = some (.tup (W.map vN))
theorem Wv.same {H H' : Hp} {a : Addr} {W : List Nat} (h : Wv H a W) (s : Same H H') : Wv H' a W := h.elim (fun e => .inl (s _ _ e)) fun e => .inr (s _ _ e)
theorem Wv.eq {H H1 H2 : Hp} {a : Addr} {W : List Nat} (h : Wv H a W) (s1 : Same H H1) (s2 : Same H H2) : H2 a = H1 a := h.elim (fun e => (s2 _ _ e).trans (s1 _ _ e).symm) fun e => (s2 _ _ e).trans (s1 _ _ e).symm
section
variable {P : Program} {w : World} {K : PySem.W.Frag} {mg : Str → Option Value} {base : Heap}
abbrev s_begun : Stmt := top 76
abbrev N_begun : List Str := ["play", "hands", "cells", "hand"]
abbrev p_begun : List Str := ["play"]
theorem sc_begun : FnScope N_begun p_begun (defScope s_begun) := ⟨rfl, rfl, rfl, by decide +kernel, rfl, by decide +kernel, by decide +kernel⟩

def spbegun (K : PySem.W.Frag) : Sp := fun vs H Q _ => ∃ (p : Addr) (rows : List Int), vs = [.ref p] ∧ PlayAt K H p rows ∧ 1 ≤ rows.length ∧ rows.length ≤ 5 ∧ ∀ H' a, Same H H' → Rp H' (.ref a) (dS (begun rows.length)) → Q (.ref a) H'
theorem wk_begun (T : Fx K mg) (a_ : At K mg "begun" s_begun p_begun) (c_cell_of : Cl P w K mg base 2 "cell_of" p_cell_of (spcell_of K)) (c_state_of : Cl P w K mg base 2 "state_of" p_state_of (spstate_of K)) : Cl P w K mg base 3 "begun" p_begun (spbegun K) := by
  refine a_.cl sc_begun (fun vs H Q E h => ?_) (fun f_ cdv A outer s_ H vs Q E hr h => ?_)
  · obtain ⟨p, rows, rfl, _⟩ := h
    rfl
  · obtain ⟨p, rows, rfl, hp, h1, h5, q⟩ := h
    refine ⟨_, (pss_cons (ps_set (i := 1) sc_begun.nd rfl (by first | exact Or.inl rfl | exact Or.inr rfl) (pe_listRg rfl (by rfl) T.z_list (prg_1 (by rfl) T.z_range (pe_callB call_len_seq (by rfl) T.z_len (by decide +kernel) (pa_cons (pe_fld (pv 0) rfl) pa_nil)))))
        (pss_cons (ps_set (i := 2) sc_begun.nd rfl (by first | exact Or.inl rfl | exact Or.inr rfl) (pe_callTy call_tuple_of (by rfl) T.z_tuple (by decide +kernel) (pa_cons (pe_lc (own := [("hand", 3)]) (g := gName 3) rfl sc_begun.nd (pi_list (pv 1)) (blkOk_by (own := [("hand", 3)]) (N := N_begun) (sc := defScope s_begun) (by decide +kernel)) (fun _ _ _ _ _ => (pg_name (i := 3) sc_begun.nd rfl (by first | exact Or.inl rfl | exact Or.inr rfl))) (fun _ _ _ _ _ => pts_nil) (fun _ _ _ _ _ => (pe_cl c_cell_of hr (by decide) (by rfl) (pa_cons (pv 0) (pa_cons (pv 3) pa_nil))))) pa_nil)))
        (pss_one (ps_ret (pe_tup (pa_cons (pv 2) (pa_cons (pe_callTy call_tuple_of (by rfl) T.z_tuple (by decide +kernel) (pa_cons (pe_lc (own := [("hand", 3)]) (g := gName 3) rfl sc_begun.nd (pi_list (pv 1)) (blkOk_by (own := [("hand", 3)]) (N := N_begun) (sc := defScope s_begun) (by decide +kernel)) (fun _ _ _ _ _ => (pg_name (i := 3) sc_begun.nd rfl (by first | exact Or.inl rfl | exact Or.inr rfl))) (fun _ _ _ _ _ => pts_nil) (fun _ _ _ _ _ => (pe_cl c_state_of hr (by decide) (by rfl) (pa_cons (pv 0) (pa_cons (pv 3) pa_nil))))) pa_nil)) (pa_cons (pe_op op_repB (pe_tup (pa_cons (pe_tup pa_nil) pa_nil)) (pe_callB call_len_seq (by rfl) T.z_len (by decide +kernel) (pa_cons (pv 1) pa_nil))) pa_nil)))))))), ?_⟩
    obtain ⟨dx, r, hp1, hr2, l1, _⟩ := play_rows hp
    refine ⟨_, rfl, p, _, dx, _, _, rfl, hp1, T.cl, T.nR, l1, r, _, rfl, .inr (sqT hr2), _, rfl, RgOk.of_le (by omega) (by rw [List.length_map]; omega) (by omega) (by omega), fun D1 n1 => ?_⟩
    have lr : (rgV 0 ((rows.map V.int).length : Int)).length = rows.length := by rw [rgV_length, List.length_map]; omega
    have atr : ∀ (i : Nat) (x : V), (rgV 0 ((rows.map V.int).length : Int))[i]? = some x → x = vN i := fun i x e => by
      unfold rgV at e
      rw [List.getElem?_map] at e
      cases q1 : (List.range ((((rows.map V.int).length : Nat) : Int) - 0).toNat)[i]? with
      | none => rw [q1] at e; cases e
      | some j =>
        rw [q1] at e
        have ej : j = i := by
          rw [List.getElem?_eq_some_iff] at q1
          obtain ⟨_, z⟩ := q1
          rw [List.getElem_range] at z
          exact z.symm
        subst ej
        rw [← Option.some.inj e]
        show V.int (0 + (j : Int)) = vN j
        rw [Int.zero_add]
    have s1 : Same H (upd H D1 (.lst (rgV 0 ((rows.map V.int).length : Int)))) := same_new n1
    have e1 : (upd H D1 (.lst (rgV 0 ((rows.map V.int).length : Int)))) D1 = some (.lst (rgV 0 ((rows.map V.int).length : Int))) := upd_same
    generalize upd H D1 (.lst (rgV 0 ((rows.map V.int).length : Int))) = H1 at s1 e1 ⊢
    -- cells
    refine ⟨_, rfl, D1, rfl, ⟨_, sqL e1⟩, fun D2 n2 => lc_sel walk_list (fun _ => some V.non) n2 (fun H' s => sqL (s _ _ e1)) (by omega) (fun i x H2 H3 Kp Kn hi s y kp kn => ?_) (fun H2 s2 e2 => ?_)⟩
    · obtain ⟨rfl, hx⟩ := y
      obtain rfl := atr i x hx
      exact ⟨rfl, yes ⟨_, rfl, _, rfl, p, rows, i, rfl, hp.same (s1.trans s), kp _ _ (Same.refl _) rfl⟩⟩
    refine ⟨D2, _, rfl, .inl ⟨sqL e2, fun c nc => ?_⟩⟩
    rw [lr]
    have e1' := s2 _ _ e1
    have s02 : Same H (upd H2 c (.tup (sel rows.length fun _ => some V.non))) := sNew (s1.trans s2) nc
    have s12 : Same H1 (upd H2 c (.tup (sel rows.length fun _ => some V.non))) := sNew s2 nc
    have ec : (upd H2 c (.tup (sel rows.length fun _ => some V.non))) c = some (.tup (sel rows.length fun _ => some V.non)) := upd_same
    generalize upd H2 c (.tup (sel rows.length fun _ => some V.non)) = H3 at s02 s12 ec ⊢
    -- states
    refine ⟨_, rfl, _, rfl, D1, rfl, ⟨_, sqL (s12 _ _ e1)⟩, fun D4 n4 => lc_rp walk_list (fun _ => some (dT (some (1, false)))) n4 (fun H' s => sqL (s _ _ (s12 _ _ e1))) (by omega) (fun i x H4 H5 Kp Kn hi s y kp kn => ?_) (fun H4 acc s4 e4 r4 => ?_)⟩
    · obtain ⟨rfl, hx⟩ := y
      obtain rfl := atr i x hx
      exact ⟨rfl, yes ⟨_, rfl, _, rfl, p, rows, i, rfl, hp.same (s02.trans s), fun H6 a s6 e6 => kp _ _ _ s6 rfl (.mk2 e6 (.int _) (.bl _))⟩⟩
    refine ⟨D4, acc, rfl, .inl ⟨sqL e4, fun st nst => ?_⟩⟩
    have s5 : Same H3 (upd H4 st (.tup acc)) := sNew s4 nst
    have est : (upd H4 st (.tup acc)) st = some (.tup acc) := upd_same
    have r5 : RpL (upd H4 st (.tup acc)) acc _ := r4.same (same_new nst)
    generalize upd H4 st (.tup acc) = H5 at s5 est r5 ⊢
    -- told
    refine ⟨line (by simp), fun t0 m0 => ⟨line (by simp), fun t1 m1 => ?_⟩⟩
    have s6 : Same H5 (upd (upd H5 t0 (.tup [])) t1 (.tup [.ref t0])) := sNew (same_new m0) m1
    have et0 : (upd (upd H5 t0 (.tup [])) t1 (.tup [.ref t0])) t0 = some (.tup []) := same_new m1 _ _ upd_same
    refine ⟨_, rfl, D1, _, rfl, .inl (sqL (s6 _ _ (s5 _ _ (s12 _ _ e1)))), t1, _, _, rfl, rfl, upd_same, by simp, by rw [lr]; omega, by rw [lr]; omega, by simp, fun H7 tt s7 e7 => ⟨line (by simp), fun a na => ?_⟩⟩
    rw [lr] at e7
    have s8 := same_new (o := .tup [.ref c, .ref st, .ref tt]) na
    have k8 : Same H5 (upd H7 a (.tup [.ref c, .ref st, .ref tt])) := (s6.trans s7).trans s8
    refine q _ a ((s02.trans s5).trans k8) (.mk3 upd_same ?_ ?_ ?_)
    · refine .mk (k8 _ _ (s5 _ _ ec)) ?_
      rw [sel_rep]
      show RpL _ _ ((List.replicate rows.length none).map dC)
      rw [map_rep]
      exact ⟨by simp, fun i v d h1 h2 => by
        rw [List.getElem?_replicate] at h1 h2
        split at h1
        · rename_i q1
          rw [if_pos q1] at h2
          cases h1; cases h2
          exact .non
        · cases h1⟩
    · refine .mk (k8 _ _ est) ?_
      show RpL _ _ ((List.replicate rows.length (some (1, false))).map dT)
      rw [map_rep, ← sel_rep, ← lr]
      exact r5.same k8
    · refine .mk (s8 _ _ e7) ?_
      show RpL _ _ ((List.replicate rows.length []).map dW)
      rw [map_rep]
      have e8 : (List.replicate ((rows.length : Nat) : Int).toNat [V.ref t0]).flatten = List.replicate rows.length (V.ref t0) := by
        rw [Int.toNat_natCast]
        simp
      rw [e8]
      exact ⟨by simp, fun i v d h1 h2 => by
        rw [List.getElem?_replicate] at h1 h2
        split at h1
        · rename_i q1
          rw [if_pos q1] at h2
          cases h1; cases h2
          exact .mk (s8 _ _ (s7 _ _ et0)) .nil
        · cases h1⟩
abbrev s_first_standing : Stmt := top 77
abbrev N_first_standing : List Str := ["play"]
abbrev p_first_standing : List Str := ["play"]
theorem sc_first_standing : FnScope N_first_standing p_first_standing (defScope s_first_standing) := ⟨rfl, rfl, rfl, by decide +kernel, rfl, by decide +kernel, by decide +kernel⟩

abbrev spfirst_standing (K : PySem.W.Frag) : Sp := spbegun K
theorem wk_first_standing (T : Fx K mg) (a_ : At K mg "first_standing" s_first_standing p_first_standing) (c_begun : Cl P w K mg base 3 "begun" p_begun (spbegun K)) : Cl P w K mg base 4 "first_standing" p_first_standing (spfirst_standing K) := by
  refine a_.cl sc_first_standing (fun vs H Q E h => ?_) (fun f_ cdv A outer s_ H vs Q E hr h => ?_)
  · obtain ⟨p, rows, rfl, _⟩ := h
    rfl
  · obtain ⟨p, rows, rfl, hp, h1, h5, q⟩ := h
    refine ⟨_, (pss_one (ps_ret (pe_cl c_begun hr (by decide) (by rfl) (pa_cons (pv 0) pa_nil)))), ?_⟩
    exact ⟨_, rfl, p, rows, rfl, hp, h1, h5, q⟩
abbrev s_movers : Stmt := top 78
abbrev N_movers : List Str := ["standing", "hand", "state"]
abbrev p_movers : List Str := ["standing"]
theorem sc_movers : FnScope N_movers p_movers (defScope s_movers) := ⟨rfl, rfl, rfl, by decide +kernel, rfl, by decide +kernel, by decide +kernel⟩

def spmovers (K : PySem.W.Frag) : Sp := fun vs H Q _ => ∃ (v : V) (S : Sd), vs = [v] ∧ Rp H v (dS S) ∧ S.states.length ≤ 5 ∧ ∀ H' a, Same H H' → H' a = some (.tup ((left S).map vN)) → Q (.ref a) H'
theorem wk_movers (T : Fx K mg) (a_ : At K mg "movers" s_movers p_movers) : Cl P w K mg base 1 "movers" p_movers (spmovers K) := by
  refine a_.cl sc_movers (fun vs H Q E h => ?_) (fun f_ cdv A outer s_ H vs Q E hr h => ?_)
  · obtain ⟨v, S, rfl, _⟩ := h
    rfl
  · obtain ⟨v, S, rfl, hv, h5, q⟩ := h
    refine ⟨_, (pss_one (ps_ret (pe_callTy call_tuple_of (by rfl) T.z_tuple (by decide +kernel) (pa_cons (pe_lc (own := [("hand", 1), ("state", 2)]) (g := gTup K 2 (gCons (gName 1) (gCons (gName 2) gNil))) rfl sc_movers.nd (pi_enumA (by rfl) T.z_enumerate (pa_cons (pe_ix ix_tup (pv 0) pe_int (fun _ _ => rfl)) pa_nil)) (blkOk_by (own := [("hand", 1), ("state", 2)]) (N := N_movers) (sc := defScope s_movers) (by decide +kernel)) (fun _ _ _ _ _ => (pg_tup rfl (pgs_cons (pg_name (i := 1) sc_movers.nd rfl (by first | exact Or.inl rfl | exact Or.inr rfl)) (pgs_cons (pg_name (i := 2) sc_movers.nd rfl (by first | exact Or.inl rfl | exact Or.inr rfl)) pgs_nil)))) (fun _ _ _ _ _ => pts_one (pt_cmpR op_notN (pv 2) pe_non (nomark _))) (fun _ _ _ _ _ => (pv 1))) pa_nil)))), ?_⟩
    obtain ⟨a, c, s, t, cvs, svs, tvs, rfl, ha, hc, rc, hs, rs, ht, rt⟩ := rpS hv
    have hl := rs.len'
    refine ⟨_, rfl, a, _, 1, _, rfl, rfl, sqT ha, atI_nat (j := 1) rfl, s, _, rfl, .inr ⟨sqT hs, fun D1 n1 => lc_sel walk_enumT (fun i => if S.states.getD i none = none then none else some (vN i)) n1 (fun H' s' => sqT (s' _ _ hs)) (by omega) (fun i x H2 H3 Kp Kn hi s' y kp kn => ?_) (fun H2 s2 e2 => ?_)⟩⟩
    · obtain ⟨Tt, x1, y1, rfl, nT, rfl, f1, f2⟩ := y
      obtain rfl := Option.some.inj f1
      obtain ⟨v, hv2, rv⟩ := rs.getD (i := i) (by omega) none
      have f2 : svs[i]? = some y1 := f2
      rw [f2] at hv2
      obtain rfl := Option.some.inj hv2
      have sT := same_new (o := .tup [.int (i : Nat), y1]) nT
      refine ⟨Tt, _, rfl, sqT upd_same, rfl, _, _, rfl, _, _, rfl, rfl, rfl, ?_⟩
      refine ⟨_, rfl, rfl, _, rfl, ?_⟩
      rcases rpT (rv.same s') with ⟨ec, rfl⟩ | ⟨o', w', a', ec, rfl, ha'⟩
      · exact iteNS rfl (kn _ sT (by rw [ec]; rfl))
      · exact iteNN (by simp) ⟨_, rfl, kp _ _ sT (by rw [ec]; rfl)⟩
    have e2' : H2 D1 = some (.lst ((left S).map vN)) := by
      rw [e2, hl]
      unfold left
      rw [sel_map]
      refine congrArg (fun z => some (HO.lst z)) (sel_congr fun i hi => ?_)
      by_cases e : S.states.getD i none = none
      · rw [if_pos e, if_pos e]; rfl
      · rw [if_neg e, if_neg e]; rfl
    exact ⟨D1, _, rfl, .inl ⟨sqL e2', fun b nb => q _ b (sNew s2 nb) upd_same⟩⟩
abbrev s_can_step : Stmt := top 79
abbrev N_can_step : List Str := ["play", "standing"]
abbrev p_can_step : List Str := ["play", "standing"]
theorem sc_can_step : FnScope N_can_step p_can_step (defScope s_can_step) := ⟨rfl, rfl, rfl, by decide +kernel, rfl, by decide +kernel, by decide +kernel⟩

def spcan_step (K : PySem.W.Frag) : Sp := fun vs H Q _ => ∃ (x v : V) (S : Sd), vs = [x, v] ∧ Rp H v (dS S) ∧ S.states.length ≤ 5 ∧ ∀ H' a, Same H H' → H' a = some (.tup ((left S).map vN)) → Q (.ref a) H'
theorem wk_can_step (T : Fx K mg) (a_ : At K mg "can_step" s_can_step p_can_step) (c_movers : Cl P w K mg base 1 "movers" p_movers (spmovers K)) : Cl P w K mg base 2 "can_step" p_can_step (spcan_step K) := by
  refine a_.cl sc_can_step (fun vs H Q E h => ?_) (fun f_ cdv A outer s_ H vs Q E hr h => ?_)
  · obtain ⟨x, v, S, rfl, _⟩ := h
    rfl
  · obtain ⟨x, v, S, rfl, hv, h5, q⟩ := h
    refine ⟨_, (pss_one (ps_ret (pe_cl c_movers hr (by decide) (by rfl) (pa_cons (pv 1) pa_nil)))), ?_⟩
    exact ⟨_, rfl, v, S, rfl, hv, h5, q⟩
end
end Nm


set_option Elab.async false
set_option linter.all false
set_option maxRecDepth 100000
set_option maxHeartbeats 8000000
namespace Nm
open PySem PySem.Spec PyProof.Rows L2
section
variable {P : Program} {w : World} {K : PySem.W.Frag} {mg : Str → Option Value} {base : Heap}
theorem RpL.row {α : Type} {H : Hp} {vs : List V} {xs : List α} {f : α → D} (r : RpL H vs (xs.map f)) {v : V} {x : α} (h : Rp H v (f x)) (n : Nat) : RpL H (vs.set n v) ((xs.set n x).map f) := by
  rw [List.map_set]
  exact r.set h n
abbrev s_after_step : Stmt := top 80
abbrev N_after_step : List Str := ["play", "standing", "hand", "cells", "states", "told", "cell", "state", "item"]
abbrev p_after_step : List Str := ["play", "standing", "hand"]
theorem sc_after_step : FnScope N_after_step p_after_step (defScope s_after_step) := ⟨rfl, rfl, rfl, by decide +kernel, rfl, by decide +kernel, by decide +kernel⟩

def spafter_step (K : PySem.W.Frag) : Sp := fun vs H Q _ => ∃ (p : Addr) (rows : List Int) (v : V) (S : Sd) (h : Nat), vs = [.ref p, v, vN h] ∧ PlayAt K H p rows ∧ Rp H v (dS S) ∧ Ok rows S ∧ rows.length ≤ 5 ∧ S.states.getD h none ≠ none ∧ ∀ H' a, Same H H' → Rp H' (.ref a) (dS (moved rows S h)) → Q (.ref a) H'
theorem wk_after_step (T : Fx K mg) (a_ : At K mg "after_step" s_after_step p_after_step) (c_after_of : Cl P w K mg base 4 "after_of" p_after_of (spafter_of K)) (c_next_of : Cl P w K mg base 2 "next_of" p_next_of (spnext_of K)) (c_replaced : Cl P w K mg base 1 "replaced" p_replaced (spreplaced K)) : Cl P w K mg base 5 "after_step" p_after_step (spafter_step K) := by
  refine a_.cl sc_after_step (fun vs H Q E h => ?_) (fun f_ cdv A outer s_ H vs Q E hr h => ?_)
  · obtain ⟨p, rows, v, S, h0, rfl, _⟩ := h
    rfl
  · obtain ⟨p, rows, v, S, h0, rfl, hp, hv, ok, h5, hst, q⟩ := h
    refine ⟨_, (pss_cons (ps_asg (pv 1) (pg_tup rfl (pgs_cons (pg_name (i := 3) sc_after_step.nd rfl (by first | exact Or.inl rfl | exact Or.inr rfl)) (pgs_cons (pg_name (i := 4) sc_after_step.nd rfl (by first | exact Or.inl rfl | exact Or.inr rfl)) (pgs_cons (pg_name (i := 5) sc_after_step.nd rfl (by first | exact Or.inl rfl | exact Or.inr rfl)) pgs_nil)))))
        (pss_cons (ps_asg (pe_cl c_after_of hr (by decide) (by rfl) (pa_cons (pv 0) (pa_cons (pv 2) (pa_cons (pv 3) (pa_cons (pe_ix ix_tup (pv 4) (pv 2) (fun _ _ => rfl)) pa_nil))))) (pg_tup rfl (pgs_cons (pg_name (i := 6) sc_after_step.nd rfl (by first | exact Or.inl rfl | exact Or.inr rfl)) (pgs_cons (pg_name (i := 7) sc_after_step.nd rfl (by first | exact Or.inl rfl | exact Or.inr rfl)) (pgs_cons (pg_name (i := 8) sc_after_step.nd rfl (by first | exact Or.inl rfl | exact Or.inr rfl)) pgs_nil)))))
        (pss_cons (ps_if (pt_cmpR (op_eqD hr.units) (pe_cl c_next_of hr (by decide) (by rfl) (pa_cons (pv 0) (pa_cons (pv 2) (pa_cons (pe_ix ix_tup (pv 4) (pv 2) (fun _ _ => rfl)) pa_nil)))) (pe_tup (pa_cons (pe_gl (by rfl) T.m_PUT) pa_nil)) (nomark _)) (pss_one (ps_set (i := 3) sc_after_step.nd rfl (by first | exact Or.inl rfl | exact Or.inr rfl) (pe_cl c_replaced hr (by decide) (by rfl) (pa_cons (pv 3) (pa_cons (pv 2) (pa_cons (pv 6) pa_nil)))))) pss_nil)
        (pss_cons (ps_if (pt_cmpR op_notN (pv 8) pe_non (nomark _)) (pss_one (ps_set (i := 5) sc_after_step.nd rfl (by first | exact Or.inl rfl | exact Or.inr rfl) (pe_cl c_replaced hr (by decide) (by rfl) (pa_cons (pv 5) (pa_cons (pv 2) (pa_cons (pe_op op_catB (pe_ix ix_tup (pv 5) (pv 2) (fun _ _ => rfl)) (pe_tup (pa_cons (pv 8) pa_nil))) pa_nil)))))) pss_nil)
        (pss_one (ps_ret (pe_tup (pa_cons (pv 3) (pa_cons (pe_cl c_replaced hr (by decide) (by rfl) (pa_cons (pv 4) (pa_cons (pv 2) (pa_cons (pv 7) pa_nil)))) (pa_cons (pv 5) pa_nil)))))))))), ?_⟩
    obtain ⟨a, c, s, t, cvs, svs, tvs, rfl, ha, hc, rc, hs, rs, ht, rt⟩ := rpS hv
    cases est : S.states.getD h0 none with
    | none => exact absurd est hst
    | some st =>
      obtain ⟨w', b⟩ := st
      have hhs := lt_of_state est
      have hh : h0 < rows.length := by rw [← ok.ls]; exact hhs
      have lc := rc.len'
      have ls := rs.len'
      have lt := rt.len'
      have kc := ok.lc
      have ks := ok.ls
      have kt := ok.lt
      obtain ⟨vst, hvst, rst⟩ := rs.getD hhs none
      rw [est] at rst
      refine ⟨_, rfl, a, _, rfl, sqT ha, rfl, _, _, rfl, _, _, rfl, _, _, rfl, rfl, ?_⟩
      -- cell, state, item = after_of(..)
      refine ⟨_, rfl, _, rfl, _, rfl, _, rfl, _, rfl, s, _, _, _, rfl, rfl, sqT hs, atI_nat hvst, p, rows, c, cvs, S.cells, h0, vst, w', b, rfl, hp, hc, rc, kc, h5, hh, rst, fun e => ok.s1 h0 w' (by rw [est, e]), fun H1 x1 s1 r1 => ?_⟩
      obtain ⟨x1', v1, v2, v3, e1, hx, q1, q2, q3⟩ := rp3 r1
      cases e1
      refine ⟨x1, _, rfl, sqT hx, rfl, _, _, rfl, _, _, rfl, _, _, rfl, rfl, ?_⟩
      -- if next_of(..) == (PUT,)
      refine ⟨_, rfl, _, rfl, _, rfl, _, rfl, s, _, _, _, rfl, rfl, sqT (s1 _ _ hs), atI_nat hvst, p, rows, h0, vst, w', b, rfl, hp.same s1, rst.same s1, fun H2 x2 s2 r2 => ⟨line (by simp), fun t1 m1 => ?_⟩⟩
      have s3 := same_new (o := .tup [.str "put"]) m1
      refine eq_put (r2.same s3) upd_same ⟨_, rfl, ?_⟩
      have s13 : Same H1 (upd H2 t1 (.tup [.str "put"])) := s2.trans s3
      have s03 : Same H (upd H2 t1 (.tup [.str "put"])) := s1.trans s13
      generalize upd H2 t1 (.tup [.str "put"]) = H3 at s03 s13 ⊢
      rw [aft_moved est] at q
      -- the rest, from what stands in cells
      have rest : ∀ (H4 : Hp) (c4 : Addr) (cvs4 : List V) (cells4 : List Cell), Same H3 H4 → H4 c4 = some (.tup cvs4) → RpL H4 cvs4 (cells4.map dC) → cells4 = (if b = false then S.cells.set h0 (aft rows S.cells h0 w' b).1 else S.cells) →
          ∀ H5 t5 tvs5, Same H4 H5 → H5 t5 = some (.tup tvs5) → RpL H5 tvs5 ((match (aft rows S.cells h0 w' b).2.2 with | none => S.told | some i => S.told.set h0 (S.told.getD h0 [] ++ [i])).map dW) →
          tTup (tCons (tVar 3) (tCons (tCall (spreplaced K) [] E0 (tCons (tVar 4) (tCons (tVar 2) (tCons (tVar 7) tNil)))) (tCons (tVar 5) tNil))) [some (.ref p), some (.ref a), some (vN h0), some (.ref c4), some (.ref s), some (.ref t5), some v1, some v2, some v3] H5 Q := by
        intro H4 c4 cvs4 cells4 s4 e4 r4 ec4 H5 t5 tvs5 s5 e5 r5
        have s35 := s4.trans s5
        refine ⟨_, rfl, _, rfl, _, rfl, _, rfl, s, svs, h0, v2, rfl, s35 _ _ (s03 _ _ hs), by omega, by omega, fun H6 s6a k6 e6 => ⟨_, rfl, line (by simp), fun z nz => ?_⟩⟩
        have k7 := same_new (o := .tup [.ref c4, .ref s6a, .ref t5]) nz
        refine q _ z (((s03.trans s35).trans k6).trans k7) (.mk3 upd_same ?_ ?_ ?_)
        · rw [← ec4]
          exact .mk (k7 _ _ (k6 _ _ (s5 _ _ e4))) (r4.same ((s5.trans k6).trans k7))
        · refine .mk (k7 _ _ e6) (((rs.same (((s03.trans s35).trans k6).trans k7)).row (f := dT) (q2.same (((s13.trans s35).trans k6).trans k7)) h0))
        · exact .mk (k7 _ _ (k6 _ _ e5)) (r5.same (k6.trans k7))
      have told : ∀ (H4 : Hp) (c4 : Addr) (cvs4 : List V) (cells4 : List Cell), Same H3 H4 → H4 c4 = some (.tup cvs4) → RpL H4 cvs4 (cells4.map dC) → cells4 = (if b = false then S.cells.set h0 (aft rows S.cells h0 w' b).1 else S.cells) →
          tSeq (tIfS (tTest (tOp (fun x y H Q => y = V.non ∧ Q (V.bl !decide (x = V.non)) H) (tVar 8) (tC V.non)))
            (tAsg (tCall (spreplaced K) [] E0 (tCons (tVar 5) (tCons (tVar 2) (tCons (tOp rCatB (tOp (rIxT K) (tVar 5) (tVar 2)) (tTup (tCons (tVar 8) tNil))) tNil)))) (gName 5)) tNext)
            (tRet (tTup (tCons (tVar 3) (tCons (tCall (spreplaced K) [] E0 (tCons (tVar 4) (tCons (tVar 2) (tCons (tVar 7) tNil)))) (tCons (tVar 5) tNil)))))
            { nx := fun _ H' => Q .non H', rt := Q } [some (.ref p), some (.ref a), some (vN h0), some (.ref c4), some (.ref s), some (.ref t), some v1, some v2, some v3] H4 := by
        intro H4 c4 cvs4 cells4 s4 e4 r4 ec4
        refine ⟨_, rfl, rfl, _, rfl, ?_⟩
        cases eo : (aft rows S.cells h0 w' b).2.2 with
        | none =>
          have e3 : v3 = .non := by
            have z := q3
            rw [eo] at z
            exact z.non_inv
          subst e3
          refine iteNS rfl (rest H4 c4 cvs4 cells4 s4 e4 r4 ec4 H4 t tvs (Same.refl _) (s4 _ _ (s03 _ _ ht)) ?_)
          rw [eo]
          exact rt.same (s03.trans s4)
        | some i =>
          have e3 : v3 = .int i := by
            have z := q3
            rw [eo] at z
            exact z.int_inv
          subst e3
          obtain ⟨vt, hvt, rvt⟩ := rt.getD (i := h0) (by omega) []
          obtain ⟨tt, rfl, htt⟩ := rpW rvt
          have k04 := s03.trans s4
          refine iteNN (by simp) ⟨_, rfl, _, rfl, _, rfl, _, rfl, t, _, _, _, rfl, rfl, sqT (k04 _ _ ht), atI_nat hvt, _, rfl, line (by simp), fun t6 m6 => ?_⟩
          have k6 := same_new (o := .tup [.int i]) m6
          refine ⟨tt, t6, _, _, rfl, rfl, k6 _ _ (k04 _ _ htt), upd_same, ?_, fun H7 p7 k7 e7 => ?_⟩
          · have : (S.told.getD h0 []).length ≤ 1 := by
              rcases told_form ok h0 hh with ⟨z, _⟩ | ⟨_, z, _⟩ <;> rw [z] <;> simp
            show (List.map V.int (S.told.getD h0 [])).length + 1 ≤ 100000
            rw [List.length_map]; omega
          refine ⟨t, tvs, h0, .ref p7, rfl, k7 _ _ (k6 _ _ (k04 _ _ ht)), by omega, by omega, fun H8 p8 k8 e8 => ?_⟩
          refine rest H4 c4 cvs4 cells4 s4 e4 r4 ec4 H8 p8 _ ((k6.trans k7).trans k8) e8 ?_
          rw [eo]
          refine (rt.same (((k04.trans k6).trans k7).trans k8)).row (f := dW) ?_ h0
          refine .mk (k8 _ _ e7) ?_
          rw [List.map_append]
          have z := RpL.of_ints (H := H8) (S.told.getD h0 [])
          exact z.snoc (.int i)
      cases b with
      | true => exact iteNT (told H3 c cvs S.cells (Same.refl _) (s03 _ _ hc) (rc.same s03) (if_neg (by simp)).symm)
      | false =>
        refine iteNF ⟨_, rfl, _, rfl, _, rfl, c, cvs, h0, v1, rfl, s03 _ _ hc, by omega, by omega, fun H4 p4 k4 e4 => ?_⟩
        exact told H4 p4 _ _ k4 e4 ((rc.same (s03.trans k4)).row (f := dC) (q1.same (s13.trans k4)) h0) (if_pos rfl).symm
abbrev s_check_step : Stmt := top 81
abbrev N_check_step : List Str := ["play", "standing", "hand"]
abbrev p_check_step : List Str := ["play", "standing", "hand"]
theorem sc_check_step : FnScope N_check_step p_check_step (defScope s_check_step) := ⟨rfl, rfl, rfl, by decide +kernel, rfl, by decide +kernel, by decide +kernel⟩

def spcheck_step (K : PySem.W.Frag) : Sp := fun vs H Q _ => ∃ (p : Addr) (rows : List Int) (v : V) (S : Sd) (h : Nat), vs = [.ref p, v, vN h] ∧ PlayAt K H p rows ∧ Rp H v (dS S) ∧ h < rows.length ∧ S.states.getD h none ≠ none ∧ Q .non H
theorem wk_check_step (T : Fx K mg) (a_ : At K mg "check_step" s_check_step p_check_step) (c_check_hand : Cl P w K mg base 5 "check_hand" p_check_hand (spcheck_hand K)) : Cl P w K mg base 6 "check_step" p_check_step (spcheck_step K) := by
  refine a_.cl sc_check_step (fun vs H Q E h => ?_) (fun f_ cdv A outer s_ H vs Q E hr h => ?_)
  · obtain ⟨p, rows, v, S, h0, rfl, _⟩ := h
    rfl
  · obtain ⟨p, rows, v, S, h0, rfl, hp, hv, hh, hst, q⟩ := h
    refine ⟨_, (pss_cons (ps_expr (pe_cl c_check_hand hr (by decide) (by rfl) (pa_cons (pv 0) (pa_cons (pv 2) pa_nil))))
        (pss_one (ps_if (pt_cmpR op_isN (pe_ix ix_tup (pe_ix ix_tup (pv 1) pe_int (fun _ _ => rfl)) (pv 2) (fun _ _ => rfl)) pe_non (nomark _)) pss_never pss_nil))), ?_⟩
    obtain ⟨a, c, s, t, cvs, svs, tvs, rfl, ha, hc, rc, hs, rs, ht, rt⟩ := rpS hv
    cases est : S.states.getD h0 none with
    | none => exact absurd est hst
    | some st =>
      obtain ⟨vst, hvst, rst⟩ := rs.getD (lt_of_state est) none
      rw [est] at rst
      rcases rpT rst with ⟨z, _⟩ | ⟨w', b, a', _, rfl, _⟩
      · cases z
      refine ⟨_, rfl, _, rfl, p, rows, (h0 : Int), rfl, hp, by omega, by omega, ?_⟩
      refine ⟨_, rfl, a, _, 1, _, rfl, rfl, sqT ha, atI_nat (j := 1) rfl, _, rfl, s, _, _, _, rfl, rfl, sqT hs, atI_nat hvst, rfl, _, rfl, ?_⟩
      rw [decide_eq_false (by simp)]
      exact iteF q
abbrev s_step : Stmt := top 82
abbrev N_step : List Str := ["play", "standing", "hand"]
abbrev p_step : List Str := ["play", "standing", "hand"]
theorem sc_step : FnScope N_step p_step (defScope s_step) := ⟨rfl, rfl, rfl, by decide +kernel, rfl, by decide +kernel, by decide +kernel⟩

def spstep (K : PySem.W.Frag) : Sp := fun vs H Q _ => ∃ (p : Addr) (rows : List Int) (v : V) (S : Sd) (h : Nat), vs = [.ref p, v, vN h] ∧ PlayAt K H p rows ∧ Rp H v (dS S) ∧ Ok rows S ∧ rows.length ≤ 5 ∧ h < rows.length ∧ S.states.getD h none ≠ none ∧ ∀ H' a, Same H H' → Rp H' (.ref a) (dS (moved rows S h)) → Q (.ref a) H'
theorem wk_step (T : Fx K mg) (a_ : At K mg "step" s_step p_step) (c_check_step : Cl P w K mg base 6 "check_step" p_check_step (spcheck_step K)) (c_after_step : Cl P w K mg base 5 "after_step" p_after_step (spafter_step K)) : Cl P w K mg base 7 "step" p_step (spstep K) := by
  refine a_.cl sc_step (fun vs H Q E h => ?_) (fun f_ cdv A outer s_ H vs Q E hr h => ?_)
  · obtain ⟨p, rows, v, S, h0, rfl, _⟩ := h
    rfl
  · obtain ⟨p, rows, v, S, h0, rfl, hp, hv, ok, h5, hh, hst, q⟩ := h
    refine ⟨_, (pss_cons (ps_expr (pe_cl c_check_step hr (by decide) (by rfl) (pa_cons (pv 0) (pa_cons (pv 1) (pa_cons (pv 2) pa_nil)))))
        (pss_one (ps_ret (pe_cl c_after_step hr (by decide) (by rfl) (pa_cons (pv 0) (pa_cons (pv 1) (pa_cons (pv 2) pa_nil))))))), ?_⟩
    refine ⟨_, rfl, _, rfl, _, rfl, p, rows, v, S, h0, rfl, hp, hv, hh, hst, ?_⟩
    exact ⟨_, rfl, _, rfl, _, rfl, p, rows, v, S, h0, rfl, hp, hv, ok, h5, hst, q⟩
abbrev s_next_step : Stmt := top 83
abbrev N_next_step : List Str := ["play", "standing", "hand"]
abbrev p_next_step : List Str := ["play", "standing", "hand"]
theorem sc_next_step : FnScope N_next_step p_next_step (defScope s_next_step) := ⟨rfl, rfl, rfl, by decide +kernel, rfl, by decide +kernel, by decide +kernel⟩

def spnext_step (K : PySem.W.Frag) : Sp := fun vs H Q _ => ∃ (p : Addr) (rows : List Int) (v : V) (S : Sd) (h : Nat) (w : Int) (b : Bool), vs = [.ref p, v, vN h] ∧ PlayAt K H p rows ∧ Rp H v (dS S) ∧ h < rows.length ∧ S.states.getD h none = some (w, b) ∧ ∀ H' a, Same H H' → Rp H' (.ref a) (.tup [.str (if b = true then "see" else "put")]) → Q (.ref a) H'
theorem wk_next_step (T : Fx K mg) (a_ : At K mg "next_step" s_next_step p_next_step) (c_check_step : Cl P w K mg base 6 "check_step" p_check_step (spcheck_step K)) (c_next_of : Cl P w K mg base 2 "next_of" p_next_of (spnext_of K)) : Cl P w K mg base 7 "next_step" p_next_step (spnext_step K) := by
  refine a_.cl sc_next_step (fun vs H Q E h => ?_) (fun f_ cdv A outer s_ H vs Q E hr h => ?_)
  · obtain ⟨p, rows, v, S, h0, w', b, rfl, _⟩ := h
    rfl
  · obtain ⟨p, rows, v, S, h0, w', b, rfl, hp, hv, hh, est, q⟩ := h
    refine ⟨_, (pss_cons (ps_expr (pe_cl c_check_step hr (by decide) (by rfl) (pa_cons (pv 0) (pa_cons (pv 1) (pa_cons (pv 2) pa_nil)))))
        (pss_one (ps_ret (pe_cl c_next_of hr (by decide) (by rfl) (pa_cons (pv 0) (pa_cons (pv 2) (pa_cons (pe_ix ix_tup (pe_ix ix_tup (pv 1) pe_int (fun _ _ => rfl)) (pv 2) (fun _ _ => rfl)) pa_nil))))))), ?_⟩
    obtain ⟨a, c, s, t, cvs, svs, tvs, e, ha, hc, rc, hs, rs, ht, rt⟩ := rpS hv
    obtain ⟨vst, hvst, rst⟩ := rs.getD (lt_of_state est) none
    rw [est] at rst
    refine ⟨_, rfl, _, rfl, _, rfl, p, rows, v, S, h0, rfl, hp, hv, hh, by rw [est]; simp, ?_⟩
    subst e
    exact ⟨_, rfl, _, rfl, _, rfl, a, _, 1, _, rfl, rfl, sqT ha, atI_nat (j := 1) rfl, _, rfl, s, _, _, _, rfl, rfl, sqT hs, atI_nat hvst, p, rows, h0, vst, w', b, rfl, hp, rst, q⟩
abbrev s_standings_of : Stmt := top 84
abbrev N_standings_of : List Str := ["play", "weaving", "found", "index", "hand"]
abbrev p_standings_of : List Str := ["play", "weaving"]
theorem sc_standings_of : FnScope N_standings_of p_standings_of (defScope s_standings_of) := ⟨rfl, rfl, rfl, by decide +kernel, rfl, by decide +kernel, by decide +kernel⟩

def spstandings_of (K : PySem.W.Frag) : Sp := fun vs H Q _ => ∃ (p : Addr) (rows : List Int) (b : Addr) (W : List Nat), vs = [.ref p, .ref b] ∧ PlayAt K H p rows ∧ Wv H b W ∧ Valid rows W ∧ W.length ≤ 1000 ∧ 1 ≤ rows.length ∧ rows.length ≤ 5 ∧
  ∀ H' l lvs, Same H H' → H' l = some (.lst lvs) → RpL H' lvs ((stood rows W).map dS) → Q (.ref l) H'
theorem wk_standings_of (T : Fx K mg) (a_ : At K mg "standings_of" s_standings_of p_standings_of) (c_is_listed : Cl P w K mg base 1 "is_listed" p_is_listed (spis_listed K)) (c_begun : Cl P w K mg base 3 "begun" p_begun (spbegun K)) (c_is_hand : Cl P w K mg base 4 "is_hand" p_is_hand (spis_hand K)) (c_after_step : Cl P w K mg base 5 "after_step" p_after_step (spafter_step K)) : Cl P w K mg base 6 "standings_of" p_standings_of (spstandings_of K) := by
  refine a_.cl sc_standings_of (fun vs H Q E h => ?_) (fun f_ cdv A outer s_ H vs Q E hr h => ?_)
  · obtain ⟨p, rows, b, W, rfl, _⟩ := h
    rfl
  · obtain ⟨p, rows, b, W, rfl, hp, hw, val, hl, h1, h5, q⟩ := h
    refine ⟨_, (pss_cons (ps_if (pt_not (pt_val (pe_cl c_is_listed hr (by decide) (by rfl) (pa_cons (pv 1) pa_nil)))) pss_never pss_nil)
        (pss_cons (ps_set (i := 2) sc_standings_of.nd rfl (by first | exact Or.inl rfl | exact Or.inr rfl) (pe_lst (pa_cons (pe_cl c_begun hr (by decide) (by rfl) (pa_cons (pv 0) pa_nil)) pa_nil)))
        (pss_cons (ps_for PassesOwn.never rfl (pi_enumA (by rfl) T.z_enumerate (pa_cons (pv 1) pa_nil)) (pg_tup rfl (pgs_cons (pg_name (i := 3) sc_standings_of.nd rfl (by first | exact Or.inl rfl | exact Or.inr rfl)) (pgs_cons (pg_name (i := 4) sc_standings_of.nd rfl (by first | exact Or.inl rfl | exact Or.inr rfl)) pgs_nil))) (pss_cons (ps_if (PW.pt (pw_or (pt_not (pt_val (pe_cl c_is_hand hr (by decide) (by rfl) (pa_cons (pv 0) (pa_cons (pv 4) pa_nil))))) (pw_or1 (pt_cmpR op_isN (pe_ix ix_tup (pe_ix ix_tup (pe_ix ix_list (pv 2) (pe_un un_neg pe_int) (fun _ _ => rfl)) pe_int (fun _ _ => rfl)) (pv 4) (fun _ _ => rfl)) pe_non (nomark _))))) pss_never pss_nil)
        (pss_one (ps_expr (pe_bm PySem.F.plainAttrs_list PySem.F.slot_list_append PySem.F.type_list_append mt_append (pv 2) (pa_cons (pe_cl c_after_step hr (by decide) (by rfl) (pa_cons (pv 0) (pa_cons (pe_ix ix_list (pv 2) (pe_un un_neg pe_int) (fun _ _ => rfl)) (pa_cons (pv 4) pa_nil)))) pa_nil))))))
        (pss_one (ps_ret (pv 2)))))), ?_⟩
    refine ⟨_, rfl, b, W.map vN, rfl, hw.symm, fun H1 s1 => ⟨true, rfl, iteNT ?_⟩⟩
    -- found = [begun(play)]
    refine ⟨_, rfl, p, rows, rfl, hp.same s1, h1, h5, fun H2 a2 s2 r2 => ⟨line (by simp), fun F nF => ?_⟩⟩
    have s02 := s1.trans s2
    have s3 := same_new (o := .lst [.ref a2]) nF
    have hF0 : H F = none := s02.free nF
    -- the loop
    refine forEnum rfl (hw.same (s02.trans s3)) fun J G wk hG => ?_
    unfold forB
    have lW : (W.map vN).length = W.length := List.length_map ..
    refine for_it wk (fun i σ H3 => ∃ o1 o2 lvs, σ = [some (.ref p), some (.ref b), some (.ref F), o1, o2] ∧ Same H H3 ∧ H3 F = some (.lst lvs) ∧ RpL H3 lvs ((stood rows (W.take i)).map dS))
      ⟨none, none, [.ref a2], rfl, s02.trans s3, upd_same, .cons (r2.same s3) .nil⟩ (fun i σ H3 hi z => ?_) (fun i x σ H3 H4 hi z y => ?_) (fun σ H3 z => ?_)
    · obtain ⟨o1, o2, lvs, rfl, sH, _⟩ := z
      exact hG _ (hw.eq (s02.trans s3) sH)
    · obtain ⟨o1, o2, lvs, rfl, sH, hF, rl⟩ := z
      obtain ⟨Tt, x1, y1, rfl, nT, rfl, f1, f2⟩ := y
      obtain rfl := Option.some.inj f1
      obtain ⟨h0, hh0, rfl⟩ := map_at f2
      rw [lW] at hi
      obtain ⟨hlt, hstt⟩ := val i h0 hh0
      have ok := runW_ok rows (W.take i)
      have sT := same_new (o := .tup [.int (i : Nat), vN h0]) nT
      have sHT := sH.trans sT
      -- found[-1]
      have li : (W.take i).length = i := by rw [List.length_take]; omega
      have ll := rl.len'
      rw [stood_len, li] at ll
      obtain ⟨v, hv, rv⟩ := rl.get (i := i) (d := dS (runW rows (W.take i))) (by rw [List.getElem?_map, stood_at (by omega), List.take_take, Nat.min_self]; rfl)
      have hv' : atI lvs (-1) = some v := at_last (by rw [ll]; exact hv)
      have rv2 := rv.same sT
      have hF2 := sT _ _ hF
      obtain ⟨a, c, s, t, cvs, svs, tvs, e, ha, hc, rc, hs, rs, ht, rt⟩ := rpS rv2
      have lst : h0 < (runW rows (W.take i)).states.length := by rw [ok.ls]; exact hlt
      obtain ⟨vst, hvst, rst⟩ := rs.getD lst none
      have nst : ¬ vst = .non := by
        rintro rfl
        rcases rpT rst with ⟨z, _⟩ | ⟨_, _, _, _, z, _⟩
        · exact hstt z
        · cases z
      refine ⟨Tt, _, rfl, sqT upd_same, rfl, _, _, rfl, _, _, rfl, rfl, ?_⟩
      refine ⟨_, rfl, _, rfl, p, rows, (h0 : Int), rfl, hp.same sHT, ?_⟩
      rw [decide_eq_true (show 0 ≤ (h0 : Int) ∧ (h0 : Int) < rows.length by omega)]
      refine ⟨true, rfl, iteNT ?_⟩
      subst e
      refine ⟨_, rfl, 1, rfl, F, _, _, _, rfl, rfl, sqL hF2, hv', a, _, 1, _, rfl, rfl, sqT ha, atI_nat (j := 1) rfl, _, rfl, s, _, _, _, rfl, rfl, sqT hs, atI_nat hvst, rfl, _, rfl, ?_⟩
      rw [decide_eq_false nst]
      refine iteF ⟨_, rfl, .inl ⟨rfl, _, sqL hF2⟩, _, rfl, _, rfl, 1, rfl, F, _, _, _, rfl, rfl, sqL hF2, hv', _, rfl, p, rows, _, _, h0, rfl, hp.same sHT, rv2, ok, h5, hstt, fun H5 a5 s5 r5 => ?_⟩
      refine ⟨F, lvs, .ref a5, rfl, rfl, s5 _ _ hF2, line' (by omega), _, _, lvs ++ [.ref a5], rfl, sPut (sHT.trans s5) hF0, upd_same, ?_⟩
      have kt : ∀ b xs, H5 b = some (.tup xs) → upd H5 F (.lst (lvs ++ [.ref a5])) b = some (.tup xs) := fun b xs e => by
        rw [upd_ne (ne_of e (s5 _ _ hF2) (by intro z; cases z))]; exact e
      rw [take_snoc hh0, stood_snoc, List.map_append]
      exact ((rl.same (sT.trans s5)).keep kt).snoc (r5.keep kt)
    · obtain ⟨o1, o2, lvs, rfl, sH, hF, rl⟩ := z
      rw [lW, List.take_length] at rl
      exact ⟨_, rfl, q _ F lvs sH hF rl⟩
abbrev s_run : Stmt := top 85
abbrev N_run : List Str := ["play", "weaving"]
abbrev p_run : List Str := ["play", "weaving"]
theorem sc_run : FnScope N_run p_run (defScope s_run) := ⟨rfl, rfl, rfl, by decide +kernel, rfl, by decide +kernel, by decide +kernel⟩

def sprun (K : PySem.W.Frag) : Sp := fun vs H Q _ => ∃ (p : Addr) (rows : List Int) (b : Addr) (W : List Nat), vs = [.ref p, .ref b] ∧ PlayAt K H p rows ∧ Wv H b W ∧ Valid rows W ∧ W.length ≤ 1000 ∧ 1 ≤ rows.length ∧ rows.length ≤ 5 ∧
  ∀ H' a, Same H H' → Rp H' (.ref a) (dS (runW rows W)) → Q (.ref a) H'
theorem wk_run (T : Fx K mg) (a_ : At K mg "run" s_run p_run) (c_standings_of : Cl P w K mg base 6 "standings_of" p_standings_of (spstandings_of K)) : Cl P w K mg base 7 "run" p_run (sprun K) := by
  refine a_.cl sc_run (fun vs H Q E h => ?_) (fun f_ cdv A outer s_ H vs Q E hr h => ?_)
  · obtain ⟨p, rows, b, W, rfl, _⟩ := h
    rfl
  · obtain ⟨p, rows, b, W, rfl, hp, hw, val, hl, h1, h5, q⟩ := h
    refine ⟨_, (pss_one (ps_ret (pe_ix ix_list (pe_cl c_standings_of hr (by decide) (by rfl) (pa_cons (pv 0) (pa_cons (pv 1) pa_nil))) (pe_un un_neg pe_int) (fun _ _ => rfl)))), ?_⟩
    refine ⟨_, rfl, _, rfl, p, rows, b, W, rfl, hp, hw, val, hl, h1, h5, fun H1 l lvs s1 e1 r1 => ?_⟩
    have ll := r1.len'
    rw [stood_len] at ll
    obtain ⟨v, hv, rv⟩ := r1.get (i := W.length) (d := dS (runW rows W)) (by rw [List.getElem?_map, stood_at (Nat.le_refl _), List.take_length]; rfl)
    obtain ⟨a, vs, rfl, ha, ra⟩ := rv.inv
    exact ⟨1, rfl, l, lvs, _, _, rfl, rfl, sqL e1, at_last (by rw [ll]; exact hv), q _ a s1 rv⟩
abbrev s_run_out : Stmt := top 86
abbrev N_run_out : List Str := ["play", "weaving", "here", "found", "left"]
abbrev p_run_out : List Str := ["play", "weaving"]
theorem sc_run_out : FnScope N_run_out p_run_out (defScope s_run_out) := ⟨rfl, rfl, rfl, by decide +kernel, rfl, by decide +kernel, by decide +kernel⟩

def sprun_out (K : PySem.W.Frag) : Sp := fun vs H Q _ => ∃ (p : Addr) (rows : List Int) (b : Addr) (W : List Nat), vs = [.ref p, .ref b] ∧ PlayAt K H p rows ∧ Wv H b W ∧ Valid rows W ∧ W.length ≤ 900 ∧ 1 ≤ rows.length ∧ rows.length ≤ 5 ∧
  ∀ H' a, Same H H' → H' a = some (.tup ((outN rows 2000 (W, runW rows W)).1.map vN)) → Q (.ref a) H'
theorem wk_run_out (T : Fx K mg) (a_ : At K mg "run_out" s_run_out p_run_out) (c_run : Cl P w K mg base 7 "run" p_run (sprun K)) (c_movers : Cl P w K mg base 1 "movers" p_movers (spmovers K)) (c_after_step : Cl P w K mg base 5 "after_step" p_after_step (spafter_step K)) : Cl P w K mg base 8 "run_out" p_run_out (sprun_out K) := by
  refine a_.cl sc_run_out (fun vs H Q E h => ?_) (fun f_ cdv A outer s_ H vs Q E hr h => ?_)
  · obtain ⟨p, rows, b, W, rfl, _⟩ := h
    rfl
  · obtain ⟨p, rows, b, W, rfl, hp, hw, val, hl, h1, h5, q⟩ := h
    refine ⟨_, (pss_cons (ps_set (i := 2) sc_run_out.nd rfl (by first | exact Or.inl rfl | exact Or.inr rfl) (pe_cl c_run hr (by decide) (by rfl) (pa_cons (pv 0) (pa_cons (pv 1) pa_nil))))
        (pss_cons (ps_set (i := 3) sc_run_out.nd rfl (by first | exact Or.inl rfl | exact Or.inr rfl) (pe_callTy call_list_of (by rfl) T.z_list (by decide +kernel) (pa_cons (pv 1) pa_nil)))
        (pss_cons (ps_set (i := 4) sc_run_out.nd rfl (by first | exact Or.inl rfl | exact Or.inr rfl) (pe_cl c_movers hr (by decide) (by rfl) (pa_cons (pv 2) pa_nil)))
        (pss_cons (ps_while PassesOwn.never (pt_cmpR op_gt (pe_callB call_len_seq (by rfl) T.z_len (by decide +kernel) (pa_cons (pv 4) pa_nil)) pe_int (nomark _)) (pss_cons (ps_set (i := 2) sc_run_out.nd rfl (by first | exact Or.inl rfl | exact Or.inr rfl) (pe_cl c_after_step hr (by decide) (by rfl) (pa_cons (pv 0) (pa_cons (pv 2) (pa_cons (pe_ix ix_tup (pv 4) pe_int (fun _ _ => rfl)) pa_nil)))))
        (pss_cons (ps_expr (pe_bm PySem.F.plainAttrs_list PySem.F.slot_list_append PySem.F.type_list_append mt_append (pv 3) (pa_cons (pe_ix ix_tup (pv 4) pe_int (fun _ _ => rfl)) pa_nil)))
        (pss_one (ps_set (i := 4) sc_run_out.nd rfl (by first | exact Or.inl rfl | exact Or.inr rfl) (pe_cl c_movers hr (by decide) (by rfl) (pa_cons (pv 2) pa_nil)))))))
        (pss_one (ps_ret (pe_callTy call_tuple_of (by rfl) T.z_tuple (by decide +kernel) (pa_cons (pv 3) pa_nil)))))))), ?_⟩
    have st5 : ∀ S, Ok rows S → S.states.length ≤ 5 := fun S k => by rw [k.ls]; exact h5
    refine ⟨_, rfl, _, rfl, p, rows, b, W, rfl, hp, hw, val, by omega, h1, h5, fun H1 a1 s1 r1 => ?_⟩
    have hw1 := hw.same s1
    refine ⟨_, rfl, b, W.map vN, rfl, hw1.elim (fun e => .inl (sqL e)) (fun e => .inr (sqT e)), fun F nF => ?_⟩
    have s2 := same_new (o := .lst (W.map vN)) nF
    have hF0 := s1.free nF
    refine ⟨_, rfl, .ref a1, _, rfl, r1.same s2, st5 _ (runW_ok _ _), fun H3 a3 s3 e3 => ?_⟩
    -- while len(left) > 0
    refine ⟨fun m σ H4 => ∃ j a4 l4, m = left_cost (outN rows j (W, runW rows W)).2 ∧ σ = [some (.ref p), some (.ref b), some (.ref a4), some (.ref F), some (.ref l4)] ∧ Same H H4 ∧ Rp H4 (.ref a4) (dS (outN rows j (W, runW rows W)).2) ∧
      H4 F = some (.lst ((outN rows j (W, runW rows W)).1.map vN)) ∧ H4 l4 = some (.tup ((left (outN rows j (W, runW rows W)).2).map vN)), ⟨_, 0, a1, a3, rfl, rfl, (s1.trans s2).trans s3, (r1.same s2).same s3, s3 _ _ upd_same, e3⟩, ?_⟩
    rintro m σ H4 ⟨j, a4, l4, rfl, rfl, sH, rS, eF, eL⟩
    obtain ⟨i1, i2, i3, i4⟩ := out_inv val j
    have kS : Ok rows (outN rows j (W, runW rows W)).2 := by rw [i1]; exact runW_ok _ _
    refine ⟨_, rfl, l4, _, rfl, .inr (sqT eL), _, 0, rfl, rfl, _, rfl, ?_⟩
    rw [List.length_map]
    cases el : left (outN rows j (W, runW rows W)).2 with
    | nil =>
      rw [decide_eq_false (by simp)]
      refine iteF ⟨_, rfl, F, _, rfl, .inl ⟨sqL eF, fun t nt => q _ t (sNew sH nt) ?_⟩⟩
      rw [upd_same, out_same el (out_left val h5 (n := 2000) (by omega))]
    | cons h0 r =>
      have hj := out_small val h5 (j := j) (by rw [el]; simp)
      have hm : h0 ∈ left (outN rows j (W, runW rows W)).2 := by rw [el]; exact List.mem_cons_self
      have es := outStep_cons (rows := rows) (p := outN rows j (W, runW rows W)) el
      have em := left_moved kS el
      rw [decide_eq_true (by simp)]
      have eL0 : H4 l4 = some (.tup (vN h0 :: r.map vN)) := by rw [eL, el]; rfl
      refine iteT ⟨fun σ' H' => ∃ m', m' < left_cost (outN rows j (W, runW rows W)).2 ∧ ∃ j a4 l4, m' = left_cost (outN rows j (W, runW rows W)).2 ∧ σ' = [some (.ref p), some (.ref b), some (.ref a4), some (.ref F), some (.ref l4)] ∧ Same H H' ∧ Rp H' (.ref a4) (dS (outN rows j (W, runW rows W)).2) ∧
        H' F = some (.lst ((outN rows j (W, runW rows W)).1.map vN)) ∧ H' l4 = some (.tup ((left (outN rows j (W, runW rows W)).2).map vN)), fun σ' H' z => z, ?_⟩
      refine ⟨_, rfl, _, rfl, _, rfl, l4, _, 0, _, rfl, rfl, sqT eL0, atI_nat (j := 0) rfl, p, rows, _, _, h0, rfl, hp.same sH, rS, kS, h5, mem_left.mp hm, fun H5 a5 s5 r5 => ?_⟩
      have eF5 := s5 _ _ eF
      refine ⟨_, rfl, .inl ⟨rfl, _, sqL eF5⟩, _, rfl, l4, _, 0, _, rfl, rfl, sqT (s5 _ _ eL0), atI_nat (j := 0) rfl, F, _, vN h0, rfl, rfl, eF5, line' (by rw [List.length_map]; omega), ?_⟩
      have kt : ∀ b xs, H5 b = some (.tup xs) → upd H5 F (.lst ((outN rows j (W, runW rows W)).1.map vN ++ [vN h0])) b = some (.tup xs) := fun b xs e => by
        rw [upd_ne (ne_of e eF5 (by intro z; cases z))]; exact e
      have eF6 : (upd H5 F (.lst ((outN rows j (W, runW rows W)).1.map vN ++ [vN h0]))) F = some (.lst ((outN rows j (W, runW rows W)).1.map vN ++ [vN h0])) := upd_same
      have s6 : Same H (upd H5 F (.lst ((outN rows j (W, runW rows W)).1.map vN ++ [vN h0]))) := sPut (sH.trans s5) hF0
      have r6 := r5.keep kt
      generalize upd H5 F (.lst ((outN rows j (W, runW rows W)).1.map vN ++ [vN h0])) = H6 at eF6 s6 r6 ⊢
      refine ⟨_, rfl, .ref a5, _, rfl, r6, st5 _ (kS.moved h0), fun H7 a7 s7 e7 => ?_⟩
      have e2 : (outN rows (j + 1) (W, runW rows W)) = ((outN rows j (W, runW rows W)).1 ++ [h0], moved rows (outN rows j (W, runW rows W)).2 h0) := es
      refine ⟨_, ?_, j + 1, a5, a7, rfl, rfl, s6.trans s7, ?_, ?_, ?_⟩
      · rw [e2]; dsimp only; omega
      · rw [e2]; exact r6.same s7
      · rw [e2]; dsimp only; rw [List.map_append]; exact s7 _ _ eF6
      · rw [e2]; exact e7
end
end Nm


set_option Elab.async false
set_option linter.all false
set_option maxRecDepth 100000
set_option maxHeartbeats 4000000
namespace Nm
open PySem PySem.Spec PyProof.Rows L2
theorem walk_zipT {K : PySem.W.Frag} {a b : Addr} {xs ys : List V} {n : Nat} (hn : n = min xs.length ys.length) : Walk (RZ.ItzT K a b) n (fun H => SqT K H a xs ∧ SqT K H b ys) (YPair (fun i => xs[i]?) (fun i => ys[i]?)) := by
  subst hn
  refine ⟨fun i _ hi q => ?_, fun _ q => ⟨xs, ys, q.1, q.2, by omega⟩, fun i H v H' _ q y => ?_⟩
  · have l1 : i < xs.length := by omega
    have l2 : i < ys.length := by omega
    exact ⟨xs, ys, xs[i], ys[i], q.1, q.2, by simp [l1], by simp [l2]⟩
  · obtain ⟨Tt, x, z, e1, e2, e3, e4, e5⟩ := y
    exact ⟨Tt, x, z, e1, e2, e3, e4 xs q.1, e5 ys q.2⟩
theorem test_notManner {K : PySem.W.Frag} {mg : Str → Option Value} {H : Hp} {p : Addr} {rows : List Int} {σ : L2.St} (T : Fx K mg) (hp : PlayAt K H p rows) (h0 : σ[0]? = some (some (.ref p))) {Q : Bool → Hp → Prop} (q : Q true H) : tTest (tOp (rIn K true) (tFld K (tVar 0) "kind") (tC (.ref (He.ga K "MANNERS")))) σ H Q := by
  refine kind_is (Q := fun x H1 => rIn K true x (.ref (He.ga K "MANNERS")) H1 fun x H' => ∃ k, x = .bl k ∧ Q k H') T hp h0 ⟨_, _, rfl, .inr (T.t_MANNERS H), rfl, rfl, _, rfl, ?_⟩
  show Q (!inV (.str "names") [.str "sweep", .str "twice", .str "borrow"]) H
  rw [not_manner]
  exact q
/-- what is told, by whom, of those that came -/
structure ToldOk (rows : List Int) (cm : List Int) (told : List (List Int)) : Prop where
  lt : told.length = rows.length
  one : ∀ ws ∈ told, ws.length ≤ 1
  pos : ∀ w ∈ told.flatten, 1 ≤ w ∧ w ≤ 2 * (cm.length : Int) - 1
  nd : told.flatten.Nodup
  came : ∀ j : Nat, told.getD j [] ≠ [] → (j : Int) ∈ cm
  asc : cm.Pairwise (· < ·)
  inn : ∀ z ∈ cm, 0 ≤ z ∧ z < rows.length
  few : cm.length ≤ 5
theorem flat_len : ∀ {l : List (List Int)}, (∀ ws ∈ l, ws.length ≤ 1) → l.flatten.length ≤ l.length
  | [], _ => Nat.le_refl _
  | a :: l, h => by
    have h1 := h a List.mem_cons_self
    have h2 := flat_len (l := l) fun ws hw => h ws (List.mem_cons_of_mem _ hw)
    rw [List.flatten_cons, List.length_append, List.length_cons]
    omega
theorem gd_mem {α : Type} {l : List α} {i : Nat} (d : α) (h : i < l.length) : l.getD i d ∈ l := List.mem_of_getElem? (gd_get l i d h)
end Nm


set_option Elab.async false
set_option linter.all false
set_option maxRecDepth 100000
set_option maxHeartbeats 8000000
namespace Nm
open PySem PySem.Spec PyProof.Rows L2
section
variable {P : Program} {w : World} {K : PySem.W.Frag} {mg : Str → Option Value} {base : Heap}
abbrev s_is_came : Stmt := top 89
abbrev N_is_came : List Str := ["play", "thing", "item", "one", "other"]
abbrev p_is_came : List Str := ["play", "thing"]
theorem sc_is_came : FnScope N_is_came p_is_came (defScope s_is_came) := ⟨rfl, rfl, rfl, by decide +kernel, rfl, by decide +kernel, by decide +kernel⟩

def spis_came (K : PySem.W.Frag) : Sp := fun vs H Q _ => ∃ (p : Addr) (rows : List Int) (c : Addr) (cm : List Int), vs = [.ref p, .ref c] ∧ PlayAt K H p rows ∧ H c = some (.tup (cm.map V.int)) ∧ cm.Pairwise (· < ·) ∧ (∀ z ∈ cm, 0 ≤ z ∧ z < rows.length) ∧ cm.length ≤ 5 ∧ ∀ H', Same H H' → Q (.bl true) H'
theorem wk_is_came (T : Fx K mg) (a_ : At K mg "is_came" s_is_came p_is_came) (c_is_hand : Cl P w K mg base 4 "is_hand" p_is_hand (spis_hand K)) : Cl P w K mg base 5 "is_came" p_is_came (spis_came K) := by
  refine a_.cl sc_is_came (fun vs H Q E h => ?_) (fun f_ cdv A outer s_ H vs Q E hr h => ?_)
  · obtain ⟨p, rows, c, cm, rfl, _⟩ := h
    rfl
  · obtain ⟨p, rows, c, cm, rfl, hp, hc, asc, inn, few, q⟩ := h
    refine ⟨_, (pss_cons (ps_if (PW.pt (pw_or (pt_not (pt_val (pe_callB call_isi (by rfl) T.z_isinstance (by decide +kernel) (pa_cons (pv 1) (pa_cons (pe_bltn (v := .ty "tuple") (by rfl) T.z_tuple (by decide +kernel) rfl) pa_nil))))) (pw_or1 (pt_not (pt_val (pe_callB (cr_all rfl) (by rfl) T.z_all (by decide +kernel) (pa_cons (pe_lc (own := [("item", 2)]) (g := gName 2) rfl sc_is_came.nd (pi_tup (pv 1)) (blkOk_by (own := [("item", 2)]) (N := N_is_came) (sc := defScope s_is_came) (by decide +kernel)) (fun _ _ _ _ _ => (pg_name (i := 2) sc_is_came.nd rfl (by first | exact Or.inl rfl | exact Or.inr rfl))) (fun _ _ _ _ _ => pts_nil) (fun _ _ _ _ _ => (pe_cl c_is_hand hr (by decide) (by rfl) (pa_cons (pv 0) (pa_cons (pv 2) pa_nil))))) pa_nil))))))) (pss_one (ps_ret pe_bl)) pss_nil)
        (pss_one (ps_ret (pe_callB (cr_all rfl) (by rfl) T.z_all (by decide +kernel) (pa_cons (pe_lc (own := [("one", 3), ("other", 4)]) (g := gTup K 2 (gCons (gName 3) (gCons (gName 4) gNil))) rfl sc_is_came.nd (RZ.pi_zipA (by rfl) T.z_zip (pa_cons (pv 1) (pa_cons (pe_slice sl_tupB (pv 1) (po_some pe_int) po_none) pa_nil))) (blkOk_by (own := [("one", 3), ("other", 4)]) (N := N_is_came) (sc := defScope s_is_came) (by decide +kernel)) (fun _ _ _ _ _ => (pg_tup rfl (pgs_cons (pg_name (i := 3) sc_is_came.nd rfl (by first | exact Or.inl rfl | exact Or.inr rfl)) (pgs_cons (pg_name (i := 4) sc_is_came.nd rfl (by first | exact Or.inl rfl | exact Or.inr rfl)) pgs_nil)))) (fun _ _ _ _ _ => pts_nil) (fun _ _ _ _ _ => (pe_cmpR op_lt (pv 3) (pv 4) (nomark _)))) pa_nil))))), ?_⟩
    refine ⟨_, rfl, _, _, _, _, true, rfl, .ty _, .base (.tup hc), kit_ty (by decide +kernel), true, rfl, iteNT ?_⟩
    refine ⟨_, rfl, c, rfl, ⟨_, sqT hc⟩, fun D1 n1 => lc_sel walk_tup (fun i => some (.bl true)) n1 (fun H' s => sqT (s _ _ hc)) (by rw [List.length_map]; omega) (fun i x H1 H2 Kp Kn hi s y kp kn => ?_) (fun H1 s1 e1 => ?_)⟩
    · obtain ⟨rfl, hx⟩ := y
      obtain ⟨z, hz, rfl⟩ := map_at hx
      refine ⟨rfl, yes ⟨_, rfl, _, rfl, p, rows, z, rfl, hp.same s, ?_⟩⟩
      rw [decide_eq_true (inn z (List.mem_of_getElem? hz))]
      exact kp _ _ (Same.refl _) rfl
    rw [sel_bl] at e1
    refine ⟨D1, _, rfl, sqL e1, ?_⟩
    rw [all_sel fun _ _ => rfl]
    refine ⟨true, rfl, iteNT ?_⟩
    have hc1 := s1 _ _ hc
    refine ⟨_, rfl, _, rfl, 1, rfl, c, _, rfl, hc1, fun H2 c2 s2 e2 => ?_⟩
    rw [show (1 : Int) = ((1 : Nat) : Int) from rfl, cut_from] at e2
    have hc2 := s2 _ _ hc1
    refine ⟨c, c2, _, _, rfl, .inr ⟨sqT hc2, sqT e2, fun D2 n2 => lc_sel (walk_zipT rfl) (fun i => some (.bl true)) n2 (fun H' s => ⟨sqT (s _ _ hc2), sqT (s _ _ e2)⟩) ?_ (fun i x H3 H4 Kp Kn hi s y kp kn => ?_) (fun H3 s3 e3 => ?_)⟩⟩
    · rw [List.length_drop, List.length_map]; omega
    · obtain ⟨Tt, x1, y1, rfl, nT, rfl, f1, f2⟩ := y
      obtain ⟨z1, hz1, rfl⟩ := map_at f1
      have f2 : ((cm.map V.int).drop 1)[i]? = some y1 := f2
      rw [List.getElem?_drop] at f2
      obtain ⟨z2, hz2, rfl⟩ := map_at f2
      have sT := same_new (o := .tup [.int z1, .int z2]) nT
      refine ⟨Tt, _, rfl, sqT upd_same, rfl, _, _, rfl, _, _, rfl, rfl, rfl, yes ⟨_, rfl, _, rfl, z1, z2, rfl, rfl, ?_⟩⟩
      have lt : z1 < z2 := by
        obtain ⟨l1, g1⟩ := List.getElem?_eq_some_iff.mp hz1
        obtain ⟨l2, g2⟩ := List.getElem?_eq_some_iff.mp hz2
        rw [← g1, ← g2]
        exact List.pairwise_iff_getElem.mp asc _ _ l1 l2 (by omega)
      rw [show ((fun i j : Int => V.bl (decide (i < j))) z1 z2) = V.bl true from congrArg V.bl (decide_eq_true lt)]
      exact kp _ _ sT rfl
    rw [sel_bl] at e3
    refine ⟨D2, _, rfl, sqL e3, ?_⟩
    rw [all_sel fun _ _ => rfl]
    exact q _ ((s1.trans s2).trans s3)
abbrev s_is_item : Stmt := top 93
abbrev N_is_item : List Str := ["play", "thing"]
abbrev p_is_item : List Str := ["play", "thing"]
theorem sc_is_item : FnScope N_is_item p_is_item (defScope s_is_item) := ⟨rfl, rfl, rfl, by decide +kernel, rfl, by decide +kernel, by decide +kernel⟩

def spis_item (K : PySem.W.Frag) : Sp := fun vs H Q _ => ∃ (p : Addr) (rows : List Int) (i : Int), vs = [.ref p, .int i] ∧ PlayAt K H p rows ∧ 1 ≤ i ∧ i ≤ 100 ∧ Q (.bl true) H
theorem wk_is_item (T : Fx K mg) (a_ : At K mg "is_item" s_is_item p_is_item) (c_is_below : Cl P w K mg base 3 "is_below" p_is_below (spis_below K)) : Cl P w K mg base 4 "is_item" p_is_item (spis_item K) := by
  refine a_.cl sc_is_item (fun vs H Q E h => ?_) (fun f_ cdv A outer s_ H vs Q E hr h => ?_)
  · obtain ⟨p, rows, i, rfl, _⟩ := h
    rfl
  · obtain ⟨p, rows, i, rfl, hp, h1, h2, q⟩ := h
    refine ⟨_, (pss_cons (ps_if (pt_cmpR op_in_seq (pe_fld (pv 0) rfl) (pe_gl (by rfl) T.m_MANNERS) (by rfl)) pss_never pss_nil)
        (pss_cons (ps_if (pt_cmpR op_eq (pe_fld (pv 0) rfl) (pe_gl (by rfl) T.m_LEVELS) (nomark _)) pss_never pss_nil)
        (pss_cons (ps_if (pt_cmpR op_eq (pe_fld (pv 0) rfl) (pe_gl (by rfl) T.m_NAMES) (nomark _)) (pss_one (ps_ret (pe_and (pe_cl c_is_below hr (by decide) (by rfl) (pa_cons (pv 1) (pa_cons (pe_gl (by rfl) T.m_MOST_NUMBER) pa_nil))) (pe_one (pe_cmpR op_gt (pv 1) pe_int (nomark _)))))) pss_nil)
        pss_never))), ?_⟩
    refine test_manner T hp rfl (iteF (test_kind T hp rfl not_levels (iteF (test_kind T hp rfl is_names (iteT ?_)))))
    refine ⟨_, rfl, i, _, rfl, ?_⟩
    rw [decide_eq_true (show 0 ≤ i ∧ i ≤ 100000000000000000000 - 1 by omega)]
    refine ⟨true, rfl, iteT ⟨_, rfl, i, 0, rfl, rfl, ?_⟩⟩
    show Q (.bl (decide (0 < i))) H
    rw [decide_eq_true (by omega)]
    exact q
abbrev s_most_told : Stmt := top 94
abbrev N_most_told : List Str := ["play", "hand", "deed"]
abbrev p_most_told : List Str := ["play", "hand"]
theorem sc_most_told : FnScope N_most_told p_most_told (defScope s_most_told) := ⟨rfl, rfl, rfl, by decide +kernel, rfl, by decide +kernel, by decide +kernel⟩

def spmost_told (K : PySem.W.Frag) : Sp := fun vs H Q _ => ∃ (p : Addr) (rows : List Int) (v : V), vs = [.ref p, v] ∧ PlayAt K H p rows ∧ Q (.int 1) H
theorem wk_most_told (T : Fx K mg) (a_ : At K mg "most_told" s_most_told p_most_told) : Cl P w K mg base 1 "most_told" p_most_told (spmost_told K) := by
  refine a_.cl sc_most_told (fun vs H Q E h => ?_) (fun f_ cdv A outer s_ H vs Q E hr h => ?_)
  · obtain ⟨p, rows, v, rfl, _⟩ := h
    rfl
  · obtain ⟨p, rows, v, rfl, hp, q⟩ := h
    refine ⟨_, (pss_cons (ps_if (pt_cmpR op_notIn_seq (pe_fld (pv 0) rfl) (pe_gl (by rfl) T.m_MANNERS) (by rfl)) (pss_one (ps_ret pe_int)) pss_nil)
        pss_never), ?_⟩
    exact test_notManner T hp rfl (iteT q)
abbrev s_is_told : Stmt := top 95
abbrev N_is_told : List Str := ["play", "thing", "many", "hand", "items", "item"]
abbrev p_is_told : List Str := ["play", "thing"]
theorem sc_is_told : FnScope N_is_told p_is_told (defScope s_is_told) := ⟨rfl, rfl, rfl, by decide +kernel, rfl, by decide +kernel, by decide +kernel⟩

def spis_told (K : PySem.W.Frag) : Sp := fun vs H Q _ => ∃ (p : Addr) (rows : List Int) (t : Addr) (tvs : List V) (told : List (List Int)) (cm : List Int), vs = [.ref p, .ref t] ∧ PlayAt K H p rows ∧ H t = some (.tup tvs) ∧ RpL H tvs (told.map dW) ∧ ToldOk rows cm told ∧ rows.length ≤ 5 ∧ ∀ H', Same H H' → Q (.bl true) H'
theorem wk_is_told (T : Fx K mg) (a_ : At K mg "is_told" s_is_told p_is_told) (c_is_sized : Cl P w K mg base 1 "is_sized" p_is_sized (spis_sized K)) (c_most_told : Cl P w K mg base 1 "most_told" p_most_told (spmost_told K)) (c_is_item : Cl P w K mg base 4 "is_item" p_is_item (spis_item K)) : Cl P w K mg base 5 "is_told" p_is_told (spis_told K) := by
  refine a_.cl sc_is_told (fun vs H Q E h => ?_) (fun f_ cdv A outer s_ H vs Q E hr h => ?_)
  · obtain ⟨p, rows, t, tvs, told, cm, rfl, _⟩ := h
    rfl
  · obtain ⟨p, rows, t, tvs, told, cm, rfl, hp, ht, rt, ok, h5, q⟩ := h
    refine ⟨_, (pss_cons (ps_set (i := 2) sc_is_told.nd rfl (by first | exact Or.inl rfl | exact Or.inr rfl) (pe_callB call_len_seq (by rfl) T.z_len (by decide +kernel) (pa_cons (pe_fld (pv 0) rfl) pa_nil)))
        (pss_cons (ps_if (pt_not (pt_val (pe_cl c_is_sized hr (by decide) (by rfl) (pa_cons (pv 1) (pa_cons (pv 2) (pa_cons (pv 2) pa_nil)))))) (pss_one (ps_ret pe_bl)) pss_nil)
        (pss_cons (ps_for PassesOwn.never rfl (pi_enumA (by rfl) T.z_enumerate (pa_cons (pv 1) pa_nil)) (pg_tup rfl (pgs_cons (pg_name (i := 3) sc_is_told.nd rfl (by first | exact Or.inl rfl | exact Or.inr rfl)) (pgs_cons (pg_name (i := 4) sc_is_told.nd rfl (by first | exact Or.inl rfl | exact Or.inr rfl)) pgs_nil))) (pss_one (ps_if (PW.pt (pw_or (pt_not (pt_val (pe_cl c_is_sized hr (by decide) (by rfl) (pa_cons (pv 4) (pa_cons pe_int (pa_cons (pe_cl c_most_told hr (by decide) (by rfl) (pa_cons (pv 0) (pa_cons (pv 3) pa_nil))) pa_nil)))))) (pw_or1 (pt_not (pt_val (pe_callB (cr_all rfl) (by rfl) T.z_all (by decide +kernel) (pa_cons (pe_lc (own := [("item", 5)]) (g := gName 5) rfl sc_is_told.nd (pi_tup (pv 4)) (blkOk_by (own := [("item", 5)]) (N := N_is_told) (sc := defScope s_is_told) (by decide +kernel)) (fun _ _ _ _ _ => (pg_name (i := 5) sc_is_told.nd rfl (by first | exact Or.inl rfl | exact Or.inr rfl))) (fun _ _ _ _ _ => pts_nil) (fun _ _ _ _ _ => (pe_cl c_is_item hr (by decide) (by rfl) (pa_cons (pv 0) (pa_cons (pv 5) pa_nil))))) pa_nil))))))) (pss_one (ps_ret pe_bl)) pss_nil)))
        (pss_one (ps_ret pe_bl))))), ?_⟩
    obtain ⟨dx, r, hp1, hr2, l1, _⟩ := play_rows hp
    have lt := rt.len'
    have kt := ok.lt
    refine ⟨_, rfl, p, _, dx, _, _, rfl, hp1, T.cl, T.nR, l1, r, _, rfl, .inr (sqT hr2), ?_⟩
    rw [List.length_map]
    refine ⟨_, rfl, _, rfl, _, rfl, t, tvs, _, _, rfl, ht, ?_⟩
    rw [decide_eq_true (by omega)]
    refine ⟨true, rfl, iteNT ?_⟩
    refine forEnum rfl (.inr ht) fun J G wk hG => ?_
    unfold forB
    refine for_it wk (fun i σ H3 => ∃ o1 o2, σ = [some (.ref p), some (.ref t), some (.int rows.length), o1, o2, none] ∧ Same H H3) ⟨none, none, rfl, Same.refl _⟩ (fun i σ H3 hi z => ?_) (fun i x σ H3 H4 hi z y => ?_) (fun σ H3 z => ?_)
    · obtain ⟨o1, o2, rfl, sH⟩ := z
      exact hG _ ((sH _ _ ht).trans ht.symm)
    · obtain ⟨o1, o2, rfl, sH⟩ := z
      obtain ⟨Tt, x1, y1, rfl, nT, rfl, f1, f2⟩ := y
      obtain rfl := Option.some.inj f1
      obtain ⟨v, hv, rv⟩ := rt.getD (i := i) (by omega) []
      have f2 : tvs[i]? = some y1 := f2
      rw [f2] at hv
      obtain rfl := Option.some.inj hv
      obtain ⟨a, rfl, ha⟩ := rpW rv
      have sT := same_new (o := .tup [.int (i : Nat), .ref a]) nT
      have sHT := sH.trans sT
      have mem := gd_mem (l := told) (i := i) [] (by omega)
      have one := ok.one _ mem
      refine ⟨Tt, _, rfl, sqT upd_same, rfl, _, _, rfl, _, _, rfl, rfl, ?_⟩
      refine ⟨_, rfl, _, rfl, _, rfl, p, rows, _, rfl, hp.same sHT, a, _, 0, 1, rfl, sHT _ _ ha, ?_⟩
      rw [List.length_map, decide_eq_true (show (0 : Int) ≤ ((told.getD i []).length : Nat) ∧ (((told.getD i []).length : Nat) : Int) ≤ 1 by omega)]
      refine ⟨true, rfl, iteNT ?_⟩
      refine ⟨_, rfl, a, rfl, ⟨_, sqT (sHT _ _ ha)⟩, fun D1 n1 => lc_sel walk_tup (fun i => some (.bl true)) n1 (fun H' s => sqT (s _ _ (sHT _ _ ha))) (by rw [List.length_map]; omega) (fun i' x H5 H6 Kp Kn hi' s y kp kn => ?_) (fun H5 s5 e5 => ?_)⟩
      · obtain ⟨rfl, hx⟩ := y
        obtain ⟨z, hz, rfl⟩ := map_at hx
        have hw := ok.pos z (List.mem_flatten.mpr ⟨_, mem, List.mem_of_getElem? hz⟩)
        have hf := ok.few
        exact ⟨rfl, yes ⟨_, rfl, _, rfl, p, rows, z, rfl, hp.same (sHT.trans s), hw.1, by omega, kp _ _ (Same.refl _) rfl⟩⟩
      rw [sel_bl] at e5
      refine ⟨D1, _, rfl, sqL e5, ?_⟩
      rw [all_sel fun _ _ => rfl]
      exact ⟨true, rfl, iteNT ⟨_, _, rfl, sHT.trans s5⟩⟩
    · obtain ⟨o1, o2, rfl, sH⟩ := z
      exact q _ sH
abbrev s_flat : Stmt := top 96
abbrev N_flat : List Str := ["told", "found", "items"]
abbrev p_flat : List Str := ["told"]
theorem sc_flat : FnScope N_flat p_flat (defScope s_flat) := ⟨rfl, rfl, rfl, by decide +kernel, rfl, by decide +kernel, by decide +kernel⟩

def spflat (K : PySem.W.Frag) : Sp := fun vs H Q _ => ∃ (t : Addr) (tvs : List V) (told : List (List Int)), vs = [.ref t] ∧ H t = some (.tup tvs) ∧ RpL H tvs (told.map dW) ∧ (∀ ws ∈ told, ws.length ≤ 1) ∧ told.length ≤ 5 ∧ ∀ H' l, Same H H' → H' l = some (.lst (told.flatten.map V.int)) → Q (.ref l) H'
theorem wk_flat (T : Fx K mg) (a_ : At K mg "flat" s_flat p_flat) : Cl P w K mg base 1 "flat" p_flat (spflat K) := by
  refine a_.cl sc_flat (fun vs H Q E h => ?_) (fun f_ cdv A outer s_ H vs Q E hr h => ?_)
  · obtain ⟨t, tvs, told, rfl, _⟩ := h
    rfl
  · obtain ⟨t, tvs, told, rfl, ht, rt, one, h5, q⟩ := h
    refine ⟨_, (pss_cons (ps_set (i := 1) sc_flat.nd rfl (by first | exact Or.inl rfl | exact Or.inr rfl) (pe_lst pa_nil))
        (pss_cons (ps_for PassesOwn.never rfl (pi_tup (pv 0)) (pg_name (i := 2) sc_flat.nd rfl (by first | exact Or.inl rfl | exact Or.inr rfl)) (pss_one (ps_expr (pe_bm PySem.F.plainAttrs_list PySem.F.slot_list_extend PySem.F.type_list_extend mt_extendT (pv 1) (pa_cons (pv 2) pa_nil)))))
        (pss_one (ps_ret (pv 1))))), ?_⟩
    have lt := rt.len'
    refine ⟨line (by simp), fun F nF => ?_⟩
    have s1 := same_new (o := .lst []) nF
    refine ⟨_, rfl, t, rfl, ⟨_, sqT (s1 _ _ ht)⟩, ?_⟩
    refine for_tup (xs := tvs) (fun i σ H3 => ∃ o1, σ = [some (.ref t), some (.ref F), o1] ∧ Same H H3 ∧ H3 F = some (.lst ((told.take i).flatten.map V.int))) ⟨none, rfl, s1, upd_same⟩ (fun i σ H3 hi z => ?_) (fun i x σ H3 hx z => ?_) (fun σ H3 z => ?_)
    · obtain ⟨o1, rfl, sH, e⟩ := z
      exact sqT (sH _ _ ht)
    · obtain ⟨o1, rfl, sH, e⟩ := z
      have hi := lt_of_at hx
      obtain ⟨v, hv, rv⟩ := rt.getD (i := i) (by omega) []
      rw [hx] at hv
      obtain rfl := Option.some.inj hv
      obtain ⟨a, rfl, ha⟩ := rpW rv
      have hg := gd_get told i [] (by omega)
      have hl1 : (told.take i).flatten.length ≤ (told.take i).length := flat_len fun ws hw => one ws (List.mem_of_mem_take hw)
      have hl2 := one _ (gd_mem (l := told) (i := i) [] (by omega))
      rw [List.length_take] at hl1
      refine ⟨_, rfl, .inl ⟨rfl, _, sqL e⟩, _, rfl, F, a, _, _, rfl, rfl, e, sqT (sH _ _ ha), line (by rw [List.length_map, List.length_map]; omega), _, rfl, sPut sH nF, ?_⟩
      rw [upd_same, take_snoc hg, List.flatten_append, List.map_append, List.flatten_cons, List.flatten_nil, List.append_nil]
    · obtain ⟨o1, rfl, sH, e⟩ := z
      rw [lt, List.take_length] at e
      exact ⟨_, rfl, q _ F sH e⟩
abbrev s_name_fault : Stmt := top 106
abbrev N_name_fault : List Str := ["play", "came", "told", "items", "item"]
abbrev p_name_fault : List Str := ["play", "came", "told"]
theorem sc_name_fault : FnScope N_name_fault p_name_fault (defScope s_name_fault) := ⟨rfl, rfl, rfl, by decide +kernel, rfl, by decide +kernel, by decide +kernel⟩

def spname_fault (K : PySem.W.Frag) : Sp := fun vs H Q _ => ∃ (x : V) (rows : List Int) (c : Addr) (cm : List Int) (t : Addr) (tvs : List V) (told : List (List Int)), vs = [x, .ref c, .ref t] ∧ H c = some (.tup (cm.map V.int)) ∧ H t = some (.tup tvs) ∧ RpL H tvs (told.map dW) ∧ ToldOk rows cm told ∧ rows.length ≤ 5 ∧ ∀ H', Same H H' → Q .non H'
theorem wk_name_fault (T : Fx K mg) (a_ : At K mg "name_fault" s_name_fault p_name_fault) (c_flat : Cl P w K mg base 1 "flat" p_flat (spflat K)) : Cl P w K mg base 2 "name_fault" p_name_fault (spname_fault K) := by
  refine a_.cl sc_name_fault (fun vs H Q E h => ?_) (fun f_ cdv A outer s_ H vs Q E hr h => ?_)
  · obtain ⟨x, rows, c, cm, t, tvs, told, rfl, _⟩ := h
    rfl
  · obtain ⟨x, rows, c, cm, t, tvs, told, rfl, hc, ht, rt, ok, h5, q⟩ := h
    refine ⟨_, (pss_cons (ps_set (i := 3) sc_name_fault.nd rfl (by first | exact Or.inl rfl | exact Or.inr rfl) (pe_cl c_flat hr (by decide) (by rfl) (pa_cons (pv 2) pa_nil)))
        (pss_cons (ps_if (pt_cmpR op_lt (pe_lenSetA (by rfl) T.z_len (by rfl) T.z_set (pv 3)) (pe_callB call_len_seq (by rfl) T.z_len (by decide +kernel) (pa_cons (pv 3) pa_nil)) (nomark _)) (pss_one (ps_ret pe_str)) pss_nil)
        (pss_one (ps_ret (pe_ifExp (pt_val (pe_callB (cr_any rfl) (by rfl) T.z_any (by decide +kernel) (pa_cons (pe_lc (own := [("item", 4)]) (g := gName 4) rfl sc_name_fault.nd (pi_list (pv 3)) (blkOk_by (own := [("item", 4)]) (N := N_name_fault) (sc := defScope s_name_fault) (by decide +kernel)) (fun _ _ _ _ _ => (pg_name (i := 4) sc_name_fault.nd rfl (by first | exact Or.inl rfl | exact Or.inr rfl))) (fun _ _ _ _ _ => pts_nil) (fun _ _ _ _ _ => (pe_cmpR op_ge (pv 4) (pe_op op_mul pe_int (pe_callB (call_lenK (K := K) rfl) (by rfl) T.z_len (by decide +kernel) (pa_cons (pv 1) pa_nil))) (nomark _)))) pa_nil))) pe_str pe_non))))), ?_⟩
    have kt := ok.lt
    refine ⟨_, rfl, t, tvs, told, rfl, ht, rt, ok.one, by omega, fun H1 l s1 e1 => ?_⟩
    have fl := flat_len ok.one
    refine ⟨_, rfl, l, _, rfl, .inl (sqL e1), ok.nd, by omega, _, rfl, l, _, rfl, .inl (sqL e1), _, _, rfl, rfl, _, rfl, ?_⟩
    rw [List.length_map, decide_eq_false (Int.lt_irrefl _)]
    refine iteF ⟨_, rfl, l, rfl, ⟨_, sqL e1⟩, fun D1 n1 => lc_sel walk_list (fun i => some (.bl false)) n1 (fun H' s => sqL (s _ _ e1)) (by rw [List.length_map]; omega) (fun i x H2 H3 Kp Kn hi s y kp kn => ?_) (fun H2 s2 e2 => ?_)⟩
    · obtain ⟨rfl, hx⟩ := y
      obtain ⟨z, hz, rfl⟩ := map_at hx
      have hw := ok.pos z (List.mem_of_getElem? hz)
      refine ⟨rfl, yes ⟨_, rfl, _, rfl, c, _, rfl, .inr (sqT (s _ _ (s1 _ _ hc))), 2, _, rfl, rfl, .inl ⟨by decide, by decide⟩, z, _, rfl, rfl, ?_⟩⟩
      rw [show ((fun i j : Int => V.bl (decide (j ≤ i))) z (2 * (((cm.map V.int).length : Nat) : Int))) = V.bl false from congrArg V.bl (decide_eq_false (by rw [List.length_map]; omega))]
      exact kp _ _ (Same.refl _) rfl
    rw [sel_bl] at e2
    refine ⟨D1, _, rfl, sqL e2, ?_⟩
    rw [any_sel fun _ _ => rfl]
    exact ⟨false, rfl, iteF (q _ (s1.trans s2))⟩
abbrev s_raw_fault : Stmt := top 109
abbrev N_raw_fault : List Str := ["play", "came", "told", "hand", "items"]
abbrev p_raw_fault : List Str := ["play", "came", "told"]
theorem sc_raw_fault : FnScope N_raw_fault p_raw_fault (defScope s_raw_fault) := ⟨rfl, rfl, rfl, by decide +kernel, rfl, by decide +kernel, by decide +kernel⟩

def spraw_fault (K : PySem.W.Frag) : Sp := fun vs H Q _ => ∃ (p : Addr) (rows : List Int) (c : Addr) (cm : List Int) (t : Addr) (tvs : List V) (told : List (List Int)), vs = [.ref p, .ref c, .ref t] ∧ PlayAt K H p rows ∧ H c = some (.tup (cm.map V.int)) ∧ H t = some (.tup tvs) ∧ RpL H tvs (told.map dW) ∧ ToldOk rows cm told ∧ rows.length ≤ 5 ∧ ∀ H', Same H H' → Q .non H'
abbrev spfault (K : PySem.W.Frag) : Sp := spraw_fault K
theorem wk_raw_fault (T : Fx K mg) (a_ : At K mg "raw_fault" s_raw_fault p_raw_fault) (c_name_fault : Cl P w K mg base 2 "name_fault" p_name_fault (spname_fault K)) : Cl P w K mg base 3 "raw_fault" p_raw_fault (spraw_fault K) := by
  refine a_.cl sc_raw_fault (fun vs H Q E h => ?_) (fun f_ cdv A outer s_ H vs Q E hr h => ?_)
  · obtain ⟨p, rows, c, cm, t, tvs, told, rfl, _⟩ := h
    rfl
  · obtain ⟨p, rows, c, cm, t, tvs, told, rfl, hp, hc, ht, rt, ok, h5, q⟩ := h
    refine ⟨_, (pss_cons (ps_if (pt_val (pe_callB (cr_any rfl) (by rfl) T.z_any (by decide +kernel) (pa_cons (pe_lc (own := [("hand", 3), ("items", 4)]) (g := gTup K 2 (gCons (gName 3) (gCons (gName 4) gNil))) rfl sc_raw_fault.nd (pi_enumA (by rfl) T.z_enumerate (pa_cons (pv 2) pa_nil)) (blkOk_by (own := [("hand", 3), ("items", 4)]) (N := N_raw_fault) (sc := defScope s_raw_fault) (by decide +kernel)) (fun _ _ _ _ _ => (pg_tup rfl (pgs_cons (pg_name (i := 3) sc_raw_fault.nd rfl (by first | exact Or.inl rfl | exact Or.inr rfl)) (pgs_cons (pg_name (i := 4) sc_raw_fault.nd rfl (by first | exact Or.inl rfl | exact Or.inr rfl)) pgs_nil)))) (fun _ _ _ _ _ => pts_nil) (fun _ _ _ _ _ => (pe_and (pe_cmpR op_gt (pe_callB (call_lenK (K := K) rfl) (by rfl) T.z_len (by decide +kernel) (pa_cons (pv 4) pa_nil)) pe_int (nomark _)) (pe_one (pe_cmpR (op_notInK (K := K) rfl) (pv 3) (pv 1) (by rfl)))))) pa_nil))) (pss_one (ps_ret pe_str)) pss_nil)
        (pss_cons (ps_if (pt_cmpR op_in_seq (pe_fld (pv 0) rfl) (pe_gl (by rfl) T.m_MANNERS) (by rfl)) pss_never pss_nil)
        (pss_cons (ps_if (pt_cmpR op_eq (pe_fld (pv 0) rfl) (pe_gl (by rfl) T.m_LEVELS) (nomark _)) pss_never pss_nil)
        (pss_cons (ps_if (pt_cmpR op_eq (pe_fld (pv 0) rfl) (pe_gl (by rfl) T.m_NAMES) (nomark _)) (pss_one (ps_ret (pe_cl c_name_fault hr (by decide) (by rfl) (pa_cons (pv 0) (pa_cons (pv 1) (pa_cons (pv 2) pa_nil)))))) pss_nil)
        pss_never)))), ?_⟩
    have lt := rt.len'
    have kt := ok.lt
    refine ⟨_, rfl, t, _, rfl, .inr ⟨sqT ht, fun D1 n1 => lc_sel walk_enumT (fun i => some (.bl false)) n1 (fun H' s => sqT (s _ _ ht)) (by omega) (fun i x H2 H3 Kp Kn hi s y kp kn => ?_) (fun H2 s2 e2 => ?_)⟩⟩
    · obtain ⟨Tt, x1, y1, rfl, nT, rfl, f1, f2⟩ := y
      obtain rfl := Option.some.inj f1
      obtain ⟨v, hv, rv⟩ := rt.getD (i := i) (by omega) []
      have f2 : tvs[i]? = some y1 := f2
      rw [f2] at hv
      obtain rfl := Option.some.inj hv
      obtain ⟨a, rfl, ha⟩ := rpW rv
      have sT := same_new (o := .tup [.int (i : Nat), .ref a]) nT
      have sHT := s.trans sT
      refine ⟨Tt, _, rfl, sqT upd_same, rfl, _, _, rfl, _, _, rfl, rfl, rfl, yes ?_⟩
      refine ⟨_, rfl, a, _, rfl, .inr (sqT (sHT _ _ ha)), _, 0, rfl, rfl, _, rfl, ?_⟩
      rw [List.length_map]
      by_cases e : told.getD i [] = []
      · rw [e, decide_eq_false (show ¬ (0 : Int) < (([] : List Int).length : Nat) by simp)]
        exact iteF (kp _ _ sT rfl)
      · have hpos : 0 < (told.getD i []).length := List.length_pos_iff.mpr e
        rw [decide_eq_true (show (0 : Int) < ((told.getD i []).length : Nat) by omega)]
        refine iteT ⟨_, rfl, _, rfl, c, _, rfl, .inr (sqT (sHT _ _ hc)), rfl, flat_ints _, ?_⟩
        show Kp (.bl (!inV (.int (i : Int)) (cm.map V.int))) _
        rw [inV_ints, decide_eq_true (ok.came i e)]
        exact kp _ _ sT rfl
    rw [sel_bl] at e2
    refine ⟨D1, _, rfl, sqL e2, ?_⟩
    rw [any_sel fun _ _ => rfl]
    have hp2 := hp.same s2
    refine ⟨false, rfl, iteF (test_manner T hp2 rfl (iteF (test_kind T hp2 rfl not_levels (iteF (test_kind T hp2 rfl is_names (iteT ?_))))))⟩
    exact ⟨_, rfl, _, rfl, _, rfl, .ref p, rows, c, cm, t, tvs, told, rfl, s2 _ _ hc, s2 _ _ ht, rt.same s2, ok, h5, fun H3 s3 => q H3 (s2.trans s3)⟩
abbrev s_fault : Stmt := top 110
abbrev N_fault : List Str := ["play", "came", "told"]
abbrev p_fault : List Str := ["play", "came", "told"]
theorem sc_fault : FnScope N_fault p_fault (defScope s_fault) := ⟨rfl, rfl, rfl, by decide +kernel, rfl, by decide +kernel, by decide +kernel⟩

theorem wk_fault (T : Fx K mg) (a_ : At K mg "fault" s_fault p_fault) (c_is_came : Cl P w K mg base 5 "is_came" p_is_came (spis_came K)) (c_is_told : Cl P w K mg base 5 "is_told" p_is_told (spis_told K)) (c_raw_fault : Cl P w K mg base 3 "raw_fault" p_raw_fault (spraw_fault K)) : Cl P w K mg base 6 "fault" p_fault (spfault K) := by
  refine a_.cl sc_fault (fun vs H Q E h => ?_) (fun f_ cdv A outer s_ H vs Q E hr h => ?_)
  · obtain ⟨p, rows, c, cm, t, tvs, told, rfl, _⟩ := h
    rfl
  · obtain ⟨p, rows, c, cm, t, tvs, told, rfl, hp, hc, ht, rt, ok, h5, q⟩ := h
    refine ⟨_, (pss_cons (ps_if (pt_not (pt_val (pe_cl c_is_came hr (by decide) (by rfl) (pa_cons (pv 0) (pa_cons (pv 1) pa_nil))))) pss_never pss_nil)
        (pss_cons (ps_if (pt_not (pt_val (pe_cl c_is_told hr (by decide) (by rfl) (pa_cons (pv 0) (pa_cons (pv 2) pa_nil))))) pss_never pss_nil)
        (pss_one (ps_ret (pe_cl c_raw_fault hr (by decide) (by rfl) (pa_cons (pv 0) (pa_cons (pv 1) (pa_cons (pv 2) pa_nil)))))))), ?_⟩
    refine ⟨_, rfl, _, rfl, p, rows, c, cm, rfl, hp, hc, ok.asc, ok.inn, ok.few, fun H1 s1 => ⟨true, rfl, iteNT ?_⟩⟩
    refine ⟨_, rfl, _, rfl, p, rows, t, tvs, told, cm, rfl, hp.same s1, s1 _ _ ht, rt.same s1, ok, h5, fun H2 s2 => ⟨true, rfl, iteNT ?_⟩⟩
    have s12 := s1.trans s2
    exact ⟨_, rfl, _, rfl, _, rfl, p, rows, c, cm, t, tvs, told, rfl, hp.same s12, s12 _ _ hc, s12 _ _ ht, rt.same s12, ok, h5, fun H3 s3 => q H3 (s12.trans s3)⟩
end
end Nm


set_option Elab.async false
set_option linter.all false
set_option maxRecDepth 100000
set_option maxHeartbeats 4000000
namespace Nm
open PySem PySem.Spec PyProof.Rows L2
/-- what draws stands at p, its cells at c -/
structure HandAt (H : Hp) (p c : Addr) (cs : List Int) (i b s n : Int) : Prop where
  at_ : H p = some (.lst [.ref c, .int i, .int b, .int s, .int n])
  cs_ : H c = some (.lst (cs.map V.int))
  ne : c ≠ p
  pos : ∀ z ∈ cs, 0 ≤ z
  few : cs.length ≤ 63
  i0 : 0 ≤ i
  b0 : 0 ≤ b
  s0 : 0 ≤ s
  s1 : s < 2147483648
  n0 : 0 ≤ n
def Hand (H : Hp) (p c : Addr) : Prop := ∃ cs i b s n, HandAt H p c cs i b s n
section
variable {H H' H0 : Hp} {p c q : Addr} {o : HO} {cs : List Int} {i b s n : Int}
theorem HandAt.same (h : HandAt H p c cs i b s n) (k : Same H H') : HandAt H' p c cs i b s n := { h with at_ := k _ _ h.at_, cs_ := k _ _ h.cs_ }
theorem Hand.same (h : Hand H p c) (k : Same H H') : Hand H' p c := by
  obtain ⟨cs, i, b, s, n, h⟩ := h
  exact ⟨cs, i, b, s, n, h.same k⟩
theorem Hand.put (h : Hand H p c) (n1 : q ≠ p) (n2 : q ≠ c) : Hand (upd H q o) p c := by
  obtain ⟨cs, i, b, s, n, h⟩ := h
  exact ⟨cs, i, b, s, n, { h with at_ := by rw [upd_ne n1.symm]; exact h.at_, cs_ := by rw [upd_ne n2.symm]; exact h.cs_ }⟩
theorem Hand.lst (h : Hand H p c) : ∃ xs, H p = some (.lst xs) := by
  obtain ⟨cs, i, b, s, n, h⟩ := h
  exact ⟨_, h.at_⟩
theorem Hand.ne (h : Hand H p c) (n : H q = none) : q ≠ p ∧ q ≠ c := by
  obtain ⟨cs, i, b, s, _, h⟩ := h
  exact ⟨(ne_of_none h.at_ n).symm, (ne_of_none h.cs_ n).symm⟩
/-- a write at a place that was new at H0 -/
theorem Hand.putN (h0 : Hand H0 p c) (n : H0 q = none) (h : Hand H p c) : Hand (upd H q o) p c := h.put (h0.ne n).1 (h0.ne n).2
theorem Hand.new (h : Hand H p c) (n : H q = none) : Hand (upd H q o) p c := h.same (same_new n)
theorem Rp.keepH {v : V} {d : D} (r : Rp H v d) (h : Hand H p c) (k : Keep p H H') : Rp H' v d := by
  obtain ⟨xs, e⟩ := h.lst
  exact r.keep fun b ys eb => k b _ (ne_of eb e (by intro z; cases z)) eb
theorem RpL.keepH {vs : List V} {ds : List D} (r : RpL H vs ds) (h : Hand H p c) (k : Keep p H H') : RpL H' vs ds := ⟨r.len, fun i v d h1 h2 => (r.at_ i v d h1 h2).keepH h k⟩
theorem PlayAt.keepH {K : PySem.W.Frag} {rows : List Int} (r : PlayAt K H q rows) (h : Hand H p c) (k : Keep p H H') : PlayAt K H' q rows := by
  obtain ⟨xs, e⟩ := h.lst
  exact r.keep e k
theorem tupH {a : Addr} {xs : List V} (e : H a = some (.tup xs)) (h : Hand H p c) (k : Keep p H H') : H' a = some (.tup xs) := by
  obtain ⟨ys, e'⟩ := h.lst
  exact k a _ (ne_of e e' (by intro z; cases z)) e
end
end Nm


set_option Elab.async false
set_option linter.all false
set_option maxRecDepth 100000
set_option maxHeartbeats 8000000
namespace Nm
open PySem PySem.Spec PyProof.Rows L2
theorem erase_perm : ∀ {xs : List Int} {d : Nat} (h : d < xs.length), ([xs[d]] ++ xs.eraseIdx d).Perm xs
  | x :: xs, 0, _ => List.Perm.refl _
  | x :: xs, d + 1, h => by
    have ih := erase_perm (xs := xs) (d := d) (by simpa using h)
    rw [List.eraseIdx_cons_succ, List.getElem_cons_succ]
    exact (List.Perm.swap x _ _).trans (List.Perm.cons x ih)
section
variable {P : Program} {w : World} {K : PySem.W.Frag} {mg : Str → Option Value} {base : Heap}
/-! ### draws -/
abbrev s__law_hand : Stmt := top 112
abbrev N__law_hand : List Str := ["_law_script", "_law_cells", "_law_cell"]
abbrev p__law_hand : List Str := ["_law_script"]
theorem sc__law_hand : FnScope N__law_hand p__law_hand (defScope s__law_hand) := ⟨rfl, rfl, rfl, by decide +kernel, rfl, by decide +kernel, by decide +kernel⟩

def sp_law_hand (K : PySem.W.Frag) : Sp := fun vs H Q _ => ∃ (a : Addr) (ns : List Int), vs = [.ref a] ∧ SqL K H a (ns.map V.int) ∧ ns.length ≤ 63 ∧ ∀ H' p c, Same H H' → Hand H' p c → Q (.ref p) H'
theorem wk__law_hand (T : Fx K mg) (a_ : At K mg "_law_hand" s__law_hand p__law_hand) : Cl P w K mg base 1 "_law_hand" p__law_hand (sp_law_hand K) := by
  refine a_.cl sc__law_hand (fun vs H Q E h => ?_) (fun f_ cdv A outer s_ H vs Q E hr h => ?_)
  · obtain ⟨a, ns, rfl, _⟩ := h
    rfl
  · obtain ⟨a, ns, rfl, ha, hl, q⟩ := h
    refine ⟨_, (pss_cons (ps_setLc (i := 1) (own := [("_law_cell", 2)]) (g := gName 2) rfl sc__law_hand.nd rfl rfl (sw_true rfl rfl rfl (by decide +kernel)) (pi_list (pe_slice sl_list (pv 0) po_none (po_some pe_int))) (blkOk_by (own := [("_law_cell", 2)]) (N := N__law_hand) (sc := defScope s__law_hand) (by decide +kernel)) (fun _ _ _ _ _ => (pg_name (i := 2) sc__law_hand.nd rfl (by first | exact Or.inl rfl | exact Or.inr rfl))) (fun _ _ _ _ _ => pts_nil) (fun _ _ _ _ _ => (pe_callB call_abs (by rfl) T.z_abs (by decide +kernel) (pa_cons (pe_callTy call_int1 (by rfl) T.z_int (by decide +kernel) (pa_cons (pv 2) pa_nil)) pa_nil))))
        (pss_one (ps_ret (pe_lst (pa_cons (pv 1) (pa_cons pe_int (pa_cons pe_int (pa_cons (pe_op op_add pe_int (pe_callB call_len_seq (by rfl) T.z_len (by decide +kernel) (pa_cons (pv 1) pa_nil))) (pa_cons pe_int pa_nil))))))))), ?_⟩
    refine ⟨_, rfl, 63, rfl, a, _, rfl, ha, fun l nl => ?_⟩
    rw [show (63 : Int) = ((63 : Nat) : Int) from rfl, cut_to, List.take_of_length_le (by rw [List.length_map]; exact hl)]
    have s1 := same_new (o := .lst (ns.map V.int)) nl
    have e1 : (upd H l (.lst (ns.map V.int))) l = some (.lst (ns.map V.int)) := upd_same
    generalize upd H l (.lst (ns.map V.int)) = H1 at s1 e1 ⊢
    refine ⟨l, rfl, ⟨_, sqL e1⟩, fun c nc => lc_sel walk_list (fun i => ns[i]?.map fun z => V.int (if z < 0 then -z else z)) nc (fun H' s => sqL (s _ _ e1)) (by rw [List.length_map]; omega) (fun i x H2 H3 Kp Kn hi s y kp kn => ?_) (fun H2 s2 e2 => ?_)⟩
    · obtain ⟨rfl, hx⟩ := y
      obtain ⟨z, hz, rfl⟩ := map_at hx
      exact ⟨rfl, yes ⟨_, rfl, .inl ⟨z, rfl, z, rfl, kp _ _ (Same.refl _) (by rw [hz]; rfl)⟩⟩⟩
    have e2' : H2 c = some (.lst ((ns.map fun z => if z < 0 then -z else z).map V.int)) := by
      rw [e2, List.length_map]
      have z := sel_map ns.length (fun i => ns[i]?) (fun z : Int => V.int (if z < 0 then -z else z))
      rw [sel_get] at z
      rw [← z, List.map_map]
      rfl
    refine ⟨_, rfl, _, rfl, c, _, rfl, .inl (sqL e2'), 1, _, rfl, rfl, line (by simp), fun p np => ?_⟩
    have s3 := same_new (o := .lst [.ref c, .int 0, .int 0, .int (1 + (((ns.map fun z => if z < 0 then -z else z).map V.int).length : Nat)), .int 0]) np
    refine q _ p c ((s1.trans s2).trans s3) ⟨_, 0, 0, _, 0, upd_same, s3 _ _ e2', ne_of_none e2' np, fun z hz => ?_, by rw [List.length_map]; exact hl, by omega, by omega, ?_, ?_, by omega⟩
    · obtain ⟨x, _, rfl⟩ := List.mem_map.mp hz
      split <;> omega
    · rw [List.length_map, List.length_map]; omega
    · rw [List.length_map, List.length_map]; omega
abbrev s__law_draw : Stmt := top 113
abbrev N__law_draw : List Str := ["_law_hand_here", "_law_many", "_law_cell", "_law_digit", "_law_number"]
abbrev p__law_draw : List Str := ["_law_hand_here", "_law_many"]
theorem sc__law_draw : FnScope N__law_draw p__law_draw (defScope s__law_draw) := ⟨rfl, rfl, rfl, by decide +kernel, rfl, by decide +kernel, by decide +kernel⟩

def sp_law_draw (K : PySem.W.Frag) : Sp := fun vs H Q _ => ∃ (p c : Addr) (m : Int), vs = [.ref p, .int m] ∧ Hand H p c ∧ 0 < m ∧ m < 1073741824 ∧ ∀ (d : Nat) H', (d : Int) < m → Keep p H H' → Hand H' p c → Q (vN d) H'
theorem wk__law_draw (T : Fx K mg) (a_ : At K mg "_law_draw" s__law_draw p__law_draw) : Cl P w K mg base 1 "_law_draw" p__law_draw (sp_law_draw K) := by
  refine a_.cl sc__law_draw (fun vs H Q E h => ?_) (fun f_ cdv A outer s_ H vs Q E hr h => ?_)
  · obtain ⟨p, c, m, rfl, _⟩ := h
    rfl
  · obtain ⟨p, c, m, rfl, hh, m0, m1, q⟩ := h
    refine ⟨_, (C8.pss_cut (ps_if (PW.pt (pw_and (pt_cmpR op_eq (pe_ix ix_list (pv 0) pe_int (fun _ _ => rfl)) pe_int (nomark _)) (pw_and1 (pt_cmpR op_lt (pe_ix ix_list (pv 0) pe_int (fun _ _ => rfl)) (pe_callB call_len_seq (by rfl) T.z_len (by decide +kernel) (pa_cons (pe_ix ix_list (pv 0) pe_int (fun _ _ => rfl)) pa_nil)) (nomark _))))) (pss_cons (ps_set (i := 2) sc__law_draw.nd rfl (by first | exact Or.inl rfl | exact Or.inr rfl) (pe_ix ix_list (pe_ix ix_list (pv 0) pe_int (fun _ _ => rfl)) (pe_ix ix_list (pv 0) pe_int (fun _ _ => rfl)) (fun _ _ => rfl)))
        (pss_cons (ps_asg (pe_op op_add (pe_ix ix_list (pv 0) pe_int (fun _ _ => rfl)) pe_int) (pg_sub (pv 0) pe_int set_list))
        (pss_cons (ps_asg (pe_op op_mod (pe_callTy call_int1 (by rfl) T.z_int (by decide +kernel) (pa_cons (pe_op op_add (pe_op op_add (pe_op op_mul (pe_ix ix_list (pv 0) pe_int (fun _ _ => rfl)) pe_int) (pv 2)) pe_int) pa_nil)) pe_int) (pg_sub (pv 0) pe_int set_list))
        (pss_one (ps_if (pt_cmpR op_ge (pv 2) (pe_op op_pow pe_int pe_int) (nomark _)) (pss_one (ps_asg (pv 2) (pg_sub (pv 0) pe_int set_list))) pss_nil))))) pss_nil)
        (pss_cons (ps_if (pt_cmpR op_gt (pe_ix ix_list (pv 0) pe_int (fun _ _ => rfl)) pe_int (nomark _)) (pss_cons (ps_set (i := 3) sc__law_draw.nd rfl (by first | exact Or.inl rfl | exact Or.inr rfl) (pe_op op_mod (pe_callTy call_int1 (by rfl) T.z_int (by decide +kernel) (pa_cons (pe_ix ix_list (pv 0) pe_int (fun _ _ => rfl)) pa_nil)) (pv 1)))
        (pss_cons (ps_asg (pe_op op_fdiv (pe_ix ix_list (pv 0) pe_int (fun _ _ => rfl)) (pv 1)) (pg_sub (pv 0) pe_int set_list))
        (pss_one (ps_ret (pv 3))))) pss_nil)
        (pss_cons (ps_asg (pe_op op_add (pe_ix ix_list (pv 0) pe_int (fun _ _ => rfl)) pe_int) (pg_sub (pv 0) pe_int set_list))
        (pss_cons (ps_set (i := 4) sc__law_draw.nd rfl (by first | exact Or.inl rfl | exact Or.inr rfl) (pe_op op_mod (pe_callTy call_int1 (by rfl) T.z_int (by decide +kernel) (pa_cons (pe_op op_mul (pe_callTy call_int1 (by rfl) T.z_int (by decide +kernel) (pa_cons (pe_op op_add (pe_ix ix_list (pv 0) pe_int (fun _ _ => rfl)) (pe_op op_mul pe_int (pe_ix ix_list (pv 0) pe_int (fun _ _ => rfl)))) pa_nil)) pe_int) pa_nil)) pe_int))
        (pss_cons (ps_set (i := 4) sc__law_draw.nd rfl (by first | exact Or.inl rfl | exact Or.inr rfl) (pe_op op_mod (pe_callTy call_int1 (by rfl) T.z_int (by decide +kernel) (pa_cons (pe_op op_mul (pv 4) (pe_op op_add (pe_op op_fdiv (pv 4) pe_int) pe_int)) pa_nil)) pe_int))
        (pss_cons (ps_set (i := 4) sc__law_draw.nd rfl (by first | exact Or.inl rfl | exact Or.inr rfl) (pe_op op_mod (pe_callTy call_int1 (by rfl) T.z_int (by decide +kernel) (pa_cons (pe_op op_mul (pv 4) (pe_op op_add (pe_op op_fdiv (pv 4) pe_int) pe_int)) pa_nil)) pe_int))
        (pss_one (ps_ret (pe_op op_mod (pe_callTy call_int1 (by rfl) T.z_int (by decide +kernel) (pa_cons (pe_op op_fdiv (pv 4) pe_int) pa_nil)) (pv 1)))))))))), ?_⟩
    obtain ⟨cs, i, b, s, n, hA⟩ := hh
    have fin : ∀ (d : Int) H', 0 ≤ d → d < m → Keep p H H' → Hand H' p c → Q (.int d) H' := fun d H' h0 h1 k1 k2 => by
      have e : d = ((d.toNat : Nat) : Int) := by omega
      rw [e]
      exact q d.toNat H' (by omega) k1 k2
    refine ⟨fun σ H' => ∃ i b s o2, σ = [some (.ref p), some (.int m), o2, none, none] ∧ Keep p H H' ∧ HandAt H' p c cs i b s n, ?_, ?_⟩
    · -- the first way
      refine ⟨_, rfl, p, _, 2, _, rfl, rfl, sqL hA.at_, atI_nat (j := 2) rfl, rfl, _, rfl, ?_⟩
      by_cases eb : b = 0
      · rw [decide_eq_true (by rw [eb])]
        refine iteT ⟨_, rfl, p, _, 1, _, rfl, rfl, sqL hA.at_, atI_nat (j := 1) rfl, _, rfl, p, _, 0, _, rfl, rfl, sqL hA.at_, atI_nat (j := 0) rfl, c, _, rfl, .inl (sqL hA.cs_), i, _, rfl, rfl, _, rfl, ?_⟩
        rw [List.length_map]
        by_cases ei : i < cs.length
        · rw [decide_eq_true ei]
          have i0 := hA.i0
          obtain ⟨z, hz⟩ : ∃ z, cs[i.toNat]? = some z := ⟨_, List.getElem?_eq_getElem (show i.toNat < cs.length by omega)⟩
          have z0 := hA.pos z (List.mem_of_getElem? hz)
          have hz' : atI (cs.map V.int) i = some (.int z) := by
            rw [show i = ((i.toNat : Nat) : Int) by omega]
            exact atI_nat (by rw [List.getElem?_map, hz]; rfl)
          -- the cell
          refine iteT ⟨_, rfl, p, _, 0, _, rfl, rfl, sqL hA.at_, atI_nat (j := 0) rfl, _, rfl, p, _, 1, _, rfl, rfl, sqL hA.at_, atI_nat (j := 1) rfl, c, _, i, _, rfl, rfl, sqL hA.cs_, hz', ?_⟩
          -- hand[1]
          refine ⟨_, rfl, p, _, 1, _, rfl, rfl, sqL hA.at_, atI_nat (j := 1) rfl, i, 1, rfl, rfl, _, rfl, p, _, 1, 1, rfl, rfl, hA.at_, rfl, ?_⟩
          have h1 : HandAt (upd H p (.lst [.ref c, .int (i + 1), .int b, .int s, .int n])) p c cs (i + 1) b s n := { hA with at_ := upd_same, cs_ := by rw [upd_ne hA.ne]; exact hA.cs_, i0 := by omega }
          have k1 : Keep p H (upd H p (.lst [.ref c, .int (i + 1), .int b, .int s, .int n])) := (Keep.refl p H).at
          show tSeq _ _ _ _ (upd H p (.lst [.ref c, .int (i + 1), .int b, .int s, .int n]))
          generalize upd H p (.lst [.ref c, .int (i + 1), .int b, .int s, .int n]) = H1 at h1 k1 ⊢
          -- hand[3]
          have s0 := hA.s0
          have s1 := hA.s1
          refine ⟨_, rfl, p, _, 3, _, rfl, rfl, sqL h1.at_, atI_nat (j := 3) rfl, s, 69621, rfl, rfl, .inl ⟨by omega, by omega⟩, _, rfl, _, z, rfl, rfl, _, 11, rfl, rfl, .inl ⟨_, rfl, _, 2147483629, rfl, rfl, (by show (0 : Int) < 2147483629; decide), _, rfl, p, _, 3, 3, rfl, rfl, h1.at_, rfl, ?_⟩⟩
          have h2 : HandAt (upd H1 p (.lst [.ref c, .int (i + 1), .int b, .int ((s * 69621 + z + 11) % 2147483629), .int n])) p c cs (i + 1) b ((s * 69621 + z + 11) % 2147483629) n :=
            { h1 with at_ := upd_same, cs_ := by rw [upd_ne h1.ne]; exact h1.cs_, s0 := by omega, s1 := by omega }
          have k2 : Keep p H (upd H1 p (.lst [.ref c, .int (i + 1), .int b, .int ((s * 69621 + z + 11) % 2147483629), .int n])) := k1.at
          -- hand[2]
          refine ⟨_, rfl, 10, 18, rfl, rfl, ⟨by decide, by decide, by decide⟩, z, _, rfl, rfl, _, rfl, ite2 (fun _ => ?_) (fun _ => ?_)⟩
          · refine ⟨_, rfl, _, rfl, p, _, 2, 2, rfl, rfl, h2.at_, rfl, ?_⟩
            exact ⟨_, _, _, _, rfl, k2.at, { h2 with at_ := upd_same, cs_ := by rw [upd_ne h2.ne]; exact h2.cs_, b0 := z0 }⟩
          · exact ⟨_, _, _, _, rfl, k2, h2⟩
        · rw [decide_eq_false ei]
          exact iteF ⟨_, _, _, _, rfl, Keep.refl _ _, hA⟩
      · rw [decide_eq_false (by simpa using eb)]
        exact iteF (iteF ⟨_, _, _, _, rfl, Keep.refl _ _, hA⟩)
    · rintro σ H3 ⟨i, b, s, o2, rfl, k3, h3⟩
      have b0 := h3.b0
      have s0 := h3.s0
      have s1 := h3.s1
      have n0 := h3.n0
      refine ⟨_, rfl, p, _, 2, _, rfl, rfl, sqL h3.at_, atI_nat (j := 2) rfl, b, 0, rfl, rfl, _, rfl, ite2 (fun _ => ?_) (fun _ => ?_)⟩
      · refine ⟨_, rfl, p, _, 2, _, rfl, rfl, sqL h3.at_, atI_nat (j := 2) rfl, .inl ⟨_, rfl, _, rfl, b, m, rfl, rfl, m0, ?_⟩⟩
        refine ⟨_, rfl, p, _, 2, _, rfl, rfl, sqL h3.at_, atI_nat (j := 2) rfl, _, rfl, b, m, rfl, rfl, ⟨m0, m1⟩, _, rfl, p, _, 2, 2, rfl, rfl, h3.at_, rfl, ?_⟩
        refine ⟨_, rfl, fin _ _ (Int.emod_nonneg _ (by omega)) (Int.emod_lt_of_pos _ m0) k3.at ⟨cs, i, b / m, s, n, { h3 with at_ := upd_same, cs_ := by rw [upd_ne h3.ne]; exact h3.cs_, b0 := Int.ediv_nonneg b0 (by omega) }⟩⟩
      · refine ⟨_, rfl, p, _, 4, _, rfl, rfl, sqL h3.at_, atI_nat (j := 4) rfl, n, 1, rfl, rfl, _, rfl, p, _, 4, 4, rfl, rfl, h3.at_, rfl, ?_⟩
        have h4 : HandAt (upd H3 p (.lst [.ref c, .int i, .int b, .int s, .int (n + 1)])) p c cs i b s (n + 1) := { h3 with at_ := upd_same, cs_ := by rw [upd_ne h3.ne]; exact h3.cs_, n0 := by omega }
        have k4 : Keep p H (upd H3 p (.lst [.ref c, .int i, .int b, .int s, .int (n + 1)])) := k3.at
        show tSeq _ _ _ _ (upd H3 p (.lst [.ref c, .int i, .int b, .int s, .int (n + 1)]))
        generalize upd H3 p (.lst [.ref c, .int i, .int b, .int s, .int (n + 1)]) = H4 at h4 k4 ⊢
        refine ⟨_, rfl, p, _, 3, _, rfl, rfl, sqL h4.at_, atI_nat (j := 3) rfl, _, rfl, p, _, 4, _, rfl, rfl, sqL h4.at_, atI_nat (j := 4) rfl, 7919, n + 1, rfl, rfl, .inl ⟨by decide, by decide⟩, s, _, rfl, rfl, .inl ⟨_, rfl, _, 48271, rfl, rfl, .inr ⟨by decide, by decide⟩, .inl ⟨_, rfl, _, 2147483647, rfl, rfl, (by show (0 : Int) < 2147483647; decide), ?_⟩⟩⟩
        refine ⟨_, rfl, _, rfl, _, 1009, rfl, rfl, ⟨by decide, by decide⟩, _, 69621, rfl, rfl, _, _, rfl, rfl, .inl ⟨by omega, by omega⟩, .inl ⟨_, rfl, _, 2147483647, rfl, rfl, (by show (0 : Int) < 2147483647; decide), ?_⟩⟩
        refine ⟨_, rfl, _, rfl, _, 2003, rfl, rfl, ⟨by decide, by decide⟩, _, 40692, rfl, rfl, _, _, rfl, rfl, .inl ⟨by omega, by omega⟩, .inl ⟨_, rfl, _, 2147483399, rfl, rfl, (by show (0 : Int) < 2147483399; decide), ?_⟩⟩
        refine ⟨_, rfl, _, 16, rfl, rfl, ⟨by decide, by decide⟩, .inl ⟨_, rfl, _, rfl, _, m, rfl, rfl, m0, ?_⟩⟩
        exact fin _ _ (Int.emod_nonneg _ (by omega)) (Int.emod_lt_of_pos _ m0) k4 ⟨cs, i, b, s, n + 1, h4⟩
abbrev s__law_some : Stmt := top 114
abbrev N__law_some : List Str := ["_law_hand_here", "_law_things"]
abbrev p__law_some : List Str := ["_law_hand_here", "_law_things"]
theorem sc__law_some : FnScope N__law_some p__law_some (defScope s__law_some) := ⟨rfl, rfl, rfl, by decide +kernel, rfl, by decide +kernel, by decide +kernel⟩

def sp_law_some (K : PySem.W.Frag) : Sp := fun vs H Q _ => ∃ (p c l : Addr) (xs : List V), vs = [.ref p, .ref l] ∧ Hand H p c ∧ (H l = some (.lst xs)) ∧ l ≠ p ∧ 0 < xs.length ∧ xs.length ≤ 1000 ∧ ∀ (i : Nat) (v : V) H', xs[i]? = some v → Keep p H H' → Hand H' p c → Q v H'
theorem wk__law_some (T : Fx K mg) (a_ : At K mg "_law_some" s__law_some p__law_some) (c__law_draw : Cl P w K mg base 1 "_law_draw" p__law_draw (sp_law_draw K)) : Cl P w K mg base 2 "_law_some" p__law_some (sp_law_some K) := by
  refine a_.cl sc__law_some (fun vs H Q E h => ?_) (fun f_ cdv A outer s_ H vs Q E hr h => ?_)
  · obtain ⟨p, c, l, xs, rfl, _⟩ := h
    rfl
  · obtain ⟨p, c, l, xs, rfl, hh, hl, ne, l0, l1, q⟩ := h
    refine ⟨_, (pss_one (ps_ret (pe_ix ix_list (pv 1) (pe_cl c__law_draw hr (by decide) (by rfl) (pa_cons (pv 0) (pa_cons (pe_callB call_len_seq (by rfl) T.z_len (by decide +kernel) (pa_cons (pv 1) pa_nil)) pa_nil))) (fun _ _ => rfl)))), ?_⟩
    refine ⟨_, rfl, _, rfl, _, rfl, l, _, rfl, .inl (sqL hl), p, c, _, rfl, hh, by omega, by omega, fun d H1 hd k1 h1 => ?_⟩
    have hlt : d < xs.length := by omega
    exact ⟨l, xs, _, xs[d], rfl, rfl, sqL (k1 _ _ ne hl), atI_nat (List.getElem?_eq_getElem hlt), q d _ _ (List.getElem?_eq_getElem hlt) k1 h1⟩
abbrev s__law_shuffled : Stmt := top 115
abbrev N__law_shuffled : List Str := ["_law_hand_here", "_law_things", "_law_pool", "_law_found"]
abbrev p__law_shuffled : List Str := ["_law_hand_here", "_law_things"]
theorem sc__law_shuffled : FnScope N__law_shuffled p__law_shuffled (defScope s__law_shuffled) := ⟨rfl, rfl, rfl, by decide +kernel, rfl, by decide +kernel, by decide +kernel⟩

def sp_law_shuffled (K : PySem.W.Frag) : Sp := fun vs H Q _ => ∃ (p c l : Addr) (ns : List Int), vs = [.ref p, .ref l] ∧ Hand H p c ∧ (H l = some (.lst (ns.map V.int))) ∧ ns.length ≤ 1000 ∧ ∀ (ns' : List Int) H' l', ns'.Perm ns → l' ≠ p → H' l' = some (.lst (ns'.map V.int)) → Keep p H H' → Hand H' p c → Q (.ref l') H'
theorem wk__law_shuffled (T : Fx K mg) (a_ : At K mg "_law_shuffled" s__law_shuffled p__law_shuffled) (c__law_draw : Cl P w K mg base 1 "_law_draw" p__law_draw (sp_law_draw K)) : Cl P w K mg base 2 "_law_shuffled" p__law_shuffled (sp_law_shuffled K) := by
  refine a_.cl sc__law_shuffled (fun vs H Q E h => ?_) (fun f_ cdv A outer s_ H vs Q E hr h => ?_)
  · obtain ⟨p, c, l, ns, rfl, _⟩ := h
    rfl
  · obtain ⟨p, c, l, ns, rfl, hh, hl, few, q⟩ := h
    refine ⟨_, (pss_cons (ps_set (i := 2) sc__law_shuffled.nd rfl (by first | exact Or.inl rfl | exact Or.inr rfl) (pe_callTy call_list_of (by rfl) T.z_list (by decide +kernel) (pa_cons (pv 1) pa_nil)))
        (pss_cons (ps_set (i := 3) sc__law_shuffled.nd rfl (by first | exact Or.inl rfl | exact Or.inr rfl) (pe_lst pa_nil))
        (pss_cons (ps_while PassesOwn.never (pt_cmpR op_gt (pe_callB call_len_seq (by rfl) T.z_len (by decide +kernel) (pa_cons (pv 2) pa_nil)) pe_int (nomark _)) (pss_one (ps_expr (pe_bm PySem.F.plainAttrs_list PySem.F.slot_list_append PySem.F.type_list_append mt_append (pv 3) (pa_cons (pe_bm PySem.F.plainAttrs_list PySem.F.slot_list_pop PySem.F.type_list_pop mt_popAt (pv 2) (pa_cons (pe_cl c__law_draw hr (by decide) (by rfl) (pa_cons (pv 0) (pa_cons (pe_callB call_len_seq (by rfl) T.z_len (by decide +kernel) (pa_cons (pv 2) pa_nil)) pa_nil))) pa_nil)) pa_nil)))))
        (pss_one (ps_ret (pv 3)))))), ?_⟩
    refine ⟨_, rfl, l, _, rfl, .inl (sqL hl), fun B nB => ⟨line (by simp), fun F nF => ?_⟩⟩
    have sB := same_new (o := .lst (ns.map V.int)) nB
    have nF0 : H F = none := sB.free nF
    have nBF : B ≠ F := ne_of_none upd_same nF
    have hB := hh.ne nB
    have hF := hh.ne nF0
    refine ⟨fun m σ H3 => ∃ (xs ys : List Int), m = xs.length ∧ σ = [some (.ref p), some (.ref l), some (.ref B), some (.ref F)] ∧ Keep p H H3 ∧ Hand H3 p c ∧ H3 B = some (.lst (xs.map V.int)) ∧ H3 F = some (.lst (ys.map V.int)) ∧ (ys ++ xs).Perm ns,
      ⟨_, ns, [], rfl, rfl, Keep.of (sNew sB nF), hh.same (sNew sB nF), same_new nF _ _ upd_same, upd_same, List.Perm.refl _⟩, ?_⟩
    rintro m σ H3 ⟨xs, ys, rfl, rfl, k3, h3, eB, eF, pm⟩
    have lp := pm.length_eq
    rw [List.length_append] at lp
    refine ⟨_, rfl, B, _, rfl, .inl (sqL eB), _, 0, rfl, rfl, _, rfl, ?_⟩
    rw [List.length_map]
    cases xs with
    | nil =>
      rw [decide_eq_false (by simp)]
      rw [List.append_nil] at pm
      exact iteF ⟨_, rfl, q ys _ F pm hF.1 eF k3 h3⟩
    | cons x0 xs0 =>
      rw [decide_eq_true (by simp)]
      refine iteT ⟨fun σ' H' => ∃ m', m' < (x0 :: xs0).length ∧ ∃ (xs ys : List Int), m' = xs.length ∧ σ' = [some (.ref p), some (.ref l), some (.ref B), some (.ref F)] ∧ Keep p H H' ∧ Hand H' p c ∧ H' B = some (.lst (xs.map V.int)) ∧ H' F = some (.lst (ys.map V.int)) ∧ (ys ++ xs).Perm ns, fun σ' H' z => z, ?_⟩
      generalize hxs : x0 :: xs0 = xs at eB pm lp ⊢
      have xpos : 0 < xs.length := by rw [← hxs]; simp
      refine ⟨_, rfl, .inl ⟨rfl, _, sqL eF⟩, _, rfl, .inl ⟨rfl, _, sqL eB⟩, _, rfl, _, rfl, B, _, rfl, .inl (sqL eB), p, c, _, rfl, h3, by rw [List.length_map]; omega, by rw [List.length_map]; omega, fun d H4 hd k4 h4 => ?_⟩
      rw [List.length_map] at hd
      have hdl : d < xs.length := by omega
      have eB4 := k4 _ _ hB.1 eB
      have eF4 := k4 _ _ hF.1 eF
      refine ⟨B, _, _, d, .int xs[d], rfl, rfl, eB4, by omega, by omega, ?_, by rw [List.getElem?_map, List.getElem?_eq_getElem hdl]; rfl, ?_⟩
      · unfold seqIndex?
        rw [List.length_map]
        simp only
        rw [if_neg (show ¬ ((d : Int) < 0) by omega), if_pos (by simp; omega)]
        rfl
      have eF5 : (upd H4 B (.lst ((xs.map V.int).eraseIdx d))) F = some (.lst (ys.map V.int)) := by rw [upd_ne nBF.symm]; exact eF4
      refine ⟨F, _, _, rfl, rfl, eF5, line' (by rw [List.length_map]; omega), ?_⟩
      refine ⟨xs.length - 1, by omega, xs.eraseIdx d, ys ++ [xs[d]], ?_, rfl, ?_, ?_, ?_, ?_, ?_⟩
      · rw [List.length_eraseIdx, if_pos hdl]
      · exact ((k3.trans k4).put nB).put nF0
      · exact hh.putN nF0 (hh.putN nB h4)
      · rw [upd_ne nBF, upd_same, erase_mapI]
      · rw [upd_same, List.map_append]; rfl
      · refine List.Perm.trans ?_ pm
        rw [List.append_assoc]
        refine List.Perm.append_left ys ?_
        exact erase_perm hdl
abbrev s__law_inputs : Stmt := top 117
abbrev N__law_inputs : List Str := ["_law_hand_here", "_law_kind", "_law_many", "_law_rows", "_law_one", "_law_rounds"]
abbrev p__law_inputs : List Str := ["_law_hand_here", "_law_kind"]
theorem sc__law_inputs : FnScope N__law_inputs p__law_inputs (defScope s__law_inputs) := ⟨rfl, rfl, rfl, by decide +kernel, rfl, by decide +kernel, by decide +kernel⟩

def sp_law_inputs (K : PySem.W.Frag) : Sp := fun vs H Q _ => ∃ (p c : Addr), vs = [.ref p, .str "names"] ∧ Hand H p c ∧ ∀ H' a r (rows : List Int), H' a = some (.tup [.ref r, .ref r, .int 0]) → H' r = some (.tup (rows.map V.int)) → 1 ≤ rows.length → rows.length ≤ 5 → (∀ n ∈ rows, 0 ≤ n ∧ n ≤ 999) → rows.Nodup → Keep p H H' → Hand H' p c → Q (.ref a) H'
theorem wk__law_inputs (T : Fx K mg) (a_ : At K mg "_law_inputs" s__law_inputs p__law_inputs) (c__law_some : Cl P w K mg base 2 "_law_some" p__law_some (sp_law_some K)) (c__law_shuffled : Cl P w K mg base 2 "_law_shuffled" p__law_shuffled (sp_law_shuffled K)) : Cl P w K mg base 3 "_law_inputs" p__law_inputs (sp_law_inputs K) := by
  refine a_.cl sc__law_inputs (fun vs H Q E h => ?_) (fun f_ cdv A outer s_ H vs Q E hr h => ?_)
  · obtain ⟨p, c, rfl, _⟩ := h
    rfl
  · obtain ⟨p, c, rfl, hh, q⟩ := h
    refine ⟨_, (pss_cons (ps_set (i := 2) sc__law_inputs.nd rfl (by first | exact Or.inl rfl | exact Or.inr rfl) (pe_cl c__law_some hr (by decide) (by rfl) (pa_cons (pv 0) (pa_cons (pe_lst (pa_cons pe_int (pa_cons pe_int (pa_cons pe_int (pa_cons pe_int (pa_cons pe_int (pa_cons pe_int (pa_cons pe_int (pa_cons pe_int pa_nil))))))))) pa_nil))))
        (pss_cons (ps_if (pt_cmpR op_eq (pv 1) pe_str (nomark _)) pss_never (pss_one (ps_if (pt_cmpR op_eq (pv 1) pe_str (nomark _)) (pss_one (ps_set (i := 3) sc__law_inputs.nd rfl (by first | exact Or.inl rfl | exact Or.inr rfl) (pe_callTy call_tuple_of (by rfl) T.z_tuple (by decide +kernel) (pa_cons (pe_slice sl_list (pe_cl c__law_shuffled hr (by decide) (by rfl) (pa_cons (pv 0) (pa_cons (pe_lst (pa_cons pe_int (pa_cons pe_int (pa_cons pe_int (pa_cons pe_int (pa_cons pe_int (pa_cons pe_int (pa_cons pe_int pa_nil)))))))) pa_nil))) po_none (po_some (pv 2))) pa_nil)))) pss_never)))
        (pss_cons (ps_set (i := 5) sc__law_inputs.nd rfl (by first | exact Or.inl rfl | exact Or.inr rfl) (pe_ifExp (pt_cmpR op_eq (pv 1) pe_str (nomark _)) pe_never pe_int))
        (pss_one (ps_ret (pe_tup (pa_cons (pe_ifExp (pt_cmpR op_eq (pv 1) pe_str (nomark _)) pe_never (pv 3)) (pa_cons (pv 3) (pa_cons (pv 5) pa_nil))))))))), ?_⟩
    -- many
    refine ⟨_, rfl, line (by simp), fun l nl => ?_⟩
    have s1 := same_new (o := .lst [.int 1, .int 2, .int 2, .int 3, .int 3, .int 3, .int 4, .int 5]) nl
    refine ⟨p, c, l, _, rfl, hh.same s1, upd_same, (hh.ne nl).1, by simp, by simp, fun i v H1 hv k1 h1 => ?_⟩
    obtain ⟨m, rfl, m1, m5⟩ : ∃ m : Nat, v = vN m ∧ 1 ≤ m ∧ m ≤ 5 := by
      have hi := lt_of_at hv
      match i, hv with
      | 0, hv => exact ⟨1, (Option.some.inj hv).symm, by omega, by omega⟩
      | 1, hv => exact ⟨2, (Option.some.inj hv).symm, by omega, by omega⟩
      | 2, hv => exact ⟨2, (Option.some.inj hv).symm, by omega, by omega⟩
      | 3, hv => exact ⟨3, (Option.some.inj hv).symm, by omega, by omega⟩
      | 4, hv => exact ⟨3, (Option.some.inj hv).symm, by omega, by omega⟩
      | 5, hv => exact ⟨3, (Option.some.inj hv).symm, by omega, by omega⟩
      | 6, hv => exact ⟨4, (Option.some.inj hv).symm, by omega, by omega⟩
      | 7, hv => exact ⟨5, (Option.some.inj hv).symm, by omega, by omega⟩
      | i + 8, hv => simp at hi; omega
    have k01 : Keep p H H1 := (Keep.of s1).trans k1
    -- rows
    refine ⟨_, rfl, rfl, _, rfl, ?_⟩
    rw [not_levels]
    refine iteF ⟨_, rfl, rfl, _, rfl, ?_⟩
    rw [is_names]
    refine iteT ⟨_, rfl, line (by simp), fun l2 nl2 => ?_⟩
    have s2 := same_new (o := .lst [.int 0, .int 999, .int 30, .int 10, .int 500, .int 1, .int 2]) nl2
    refine ⟨p, c, l2, [0, 999, 30, 10, 500, 1, 2], rfl, h1.same s2, upd_same, by simp, fun ns H2 l3 pm ne3 e3 k2 h2 => ?_⟩
    refine ⟨_, rfl, _, rfl, l3, _, rfl, sqL e3, fun l4 nl4 => ⟨l4, _, rfl, .inl ⟨sqL upd_same, fun r nr => ?_⟩⟩⟩
    rw [cut_to] at nr ⊢
    have lns : ns.length = 7 := pm.length_eq
    have kfin : ∀ o, Keep p H (upd (upd H2 l4 (.lst ((ns.map V.int).take m))) r o) := fun o => ((k01.trans ((Keep.of s2).trans k2)).new nl4).new nr
    refine ⟨_, rfl, rfl, _, rfl, ?_⟩
    rw [not_near]
    refine iteF ⟨_, rfl, rfl, _, rfl, ?_⟩
    rw [not_near]
    refine iteF ⟨_, rfl, _, rfl, _, rfl, line (by simp), fun a na => ?_⟩
    have s5 := same_new (o := .tup [.ref r, .ref r, .int 0]) na
    have sub : ∀ n ∈ ns.take m, n ∈ [0, 999, 30, 10, 500, 1, 2] := fun n hn => pm.mem_iff.mp (List.mem_of_mem_take hn)
    refine q _ a r (ns.take m) upd_same ?_ (by rw [List.length_take]; omega) (by rw [List.length_take]; omega) (fun n hn => ?_) ?_ ((kfin _).new na) ((((h2.new nl4).new nr)).new na)
    · rw [List.map_take]; exact s5 _ _ upd_same
    · have := sub n hn
      simp only [List.mem_cons, List.not_mem_nil, or_false] at this
      omega
    · have nd : ns.Nodup := pm.nodup_iff.mpr (by decide)
      exact nd.sublist (List.take_sublist _ _)
end
end Nm


set_option Elab.async false
set_option linter.all false
set_option maxRecDepth 100000
set_option maxHeartbeats 8000000
namespace Nm
open PySem PySem.Spec PyProof.Rows L2
/-! ### the same, through and through -/
/-- data of at most so many tuples, one in another -/
inductive Lv : Nat → D → Prop
  | non (n : Nat) : Lv n .non
  | bl (n : Nat) (b : Bool) : Lv n (.bl b)
  | int (n : Nat) (i : Int) : Lv n (.int i)
  | str (n : Nat) (z : Str) : Lv n (.str z)
  | tup {n : Nat} {ds : List D} : (∀ d ∈ ds, Lv n d) → ds.length ≤ 1000 → Lv (n + 1) (.tup ds)
theorem Lv.succ {n : Nat} {d : D} (h : Lv n d) : Lv (n + 1) d := by
  induction h with
  | non n => exact .non _
  | bl n b => exact .bl _ b
  | int n i => exact .int _ i
  | str n z => exact .str _ z
  | tup h1 h2 ih => exact .tup ih h2
def spIs : Nat → Sp
  | 0 => fun _ _ _ _ => False
  | n + 1 => fun vs H Q _ => ∃ u v, vs = [u, v] ∧ ((∃ d, Lv n d ∧ Rp H u d ∧ Rp H v d) ∨ (∃ (m : Nat) (a b : Addr) (us ws : List V) (ds : List D), n = m + 1 ∧ u = .ref a ∧ v = .ref b ∧ H a = some (.lst us) ∧ H b = some (.lst ws) ∧ RpL H us ds ∧ RpL H ws ds ∧ (∀ d ∈ ds, Lv m d) ∧ ds.length ≤ 1000)) ∧ ∀ H', Same H H' → Q (.bl true) H'
abbrev sp_law_is (K : PySem.W.Frag) : Sp := spIs 5
theorem kit2 {K : PySem.W.Frag} {a t1 t2 : String} {r1 r2 : Bool} (h1 : kitB a t1 = some r1) (h2 : kitB a t2 = some r2) : PySem.W.kitAny K (.type a) [.type t1, .type t2] = some (r1 || r2) := by
  cases r1 with
  | true => exact kitAny_cons (kit_ty h1) (fun z => nomatch z) fun _ => rfl
  | false =>
    refine kitAny_cons (kit_ty h1) (fun _ => ?_) fun z => nomatch z
    cases r2 with
    | true => exact kitAny_cons (kit_ty h2) (fun z => nomatch z) fun _ => rfl
    | false => exact kitAny_cons (kit_ty h2) (fun _ => kitAny_nil) fun z => nomatch z
theorem dec_self (x : V) : V.bl (decide (x = x)) = .bl true := by rw [decide_eq_true rfl]
theorem dec_bl_eq (b : Bool) : decide (V.bl b = V.bl b) = true := decide_eq_true rfl
section
variable {P : Program} {w : World} {K : PySem.W.Frag} {mg : Str → Option Value} {base : Heap}
abbrev s__law_is : Stmt := top 116
abbrev N__law_is : List Str := ["_law_told", "_law_due", "_law_k", "_law_key"]
abbrev p__law_is : List Str := ["_law_told", "_law_due"]
theorem sc__law_is : FnScope N__law_is p__law_is (defScope s__law_is) := ⟨rfl, rfl, rfl, by decide +kernel, rfl, by decide +kernel, by decide +kernel⟩

theorem wk__law_is (T : Fx K mg) (a_ : At K mg "_law_is" s__law_is p__law_is) : ∀ n, Cl P w K mg base n "_law_is" p__law_is (spIs n)
  | 0 => a_.never 0
  | n + 1 => by
    have c__law_is := wk__law_is T a_ n
    refine a_.cl sc__law_is (fun vs H Q E h => ?_) (fun f_ cdv A outer s_ H vs Q E hr h => ?_)
    · obtain ⟨u, v, rfl, _⟩ := h
      rfl
    obtain ⟨u, v, rfl, hd, q⟩ := h
    refine ⟨_, (pss_cons (ps_if (pt_val (pe_callB call_isiT (by rfl) T.z_isinstance (by decide +kernel) (pa_cons (pv 1) (pa_cons (pe_tup (pa_cons (pe_bltn (v := .ty "tuple") (by rfl) T.z_tuple (by decide +kernel) rfl) (pa_cons (pe_bltn (v := .ty "list") (by rfl) T.z_list (by decide +kernel) rfl) pa_nil))) pa_nil)))) (pss_cons (ps_if (PW.pt (pw_or (pt_cmpR op_ne (pe_callB call_isi (by rfl) T.z_isinstance (by decide +kernel) (pa_cons (pv 0) (pa_cons (pe_bltn (v := .ty "tuple") (by rfl) T.z_tuple (by decide +kernel) rfl) pa_nil))) (pe_callB call_isi (by rfl) T.z_isinstance (by decide +kernel) (pa_cons (pv 1) (pa_cons (pe_bltn (v := .ty "tuple") (by rfl) T.z_tuple (by decide +kernel) rfl) pa_nil))) (nomark _)) (pw_or1 (pt_cmpR op_ne (pe_callB call_isi (by rfl) T.z_isinstance (by decide +kernel) (pa_cons (pv 0) (pa_cons (pe_bltn (v := .ty "list") (by rfl) T.z_list (by decide +kernel) rfl) pa_nil))) (pe_callB call_isi (by rfl) T.z_isinstance (by decide +kernel) (pa_cons (pv 1) (pa_cons (pe_bltn (v := .ty "list") (by rfl) T.z_list (by decide +kernel) rfl) pa_nil))) (nomark _))))) (pss_one (ps_ret pe_bl)) pss_nil)
        (pss_one (ps_ret (pe_and (pe_cmpR op_eq (pe_callB call_len_seq (by rfl) T.z_len (by decide +kernel) (pa_cons (pv 0) pa_nil)) (pe_callB call_len_seq (by rfl) T.z_len (by decide +kernel) (pa_cons (pv 1) pa_nil)) (nomark _)) (pe_one (pe_callB (cr_all rfl) (by rfl) T.z_all (by decide +kernel) (pa_cons (pe_lc (own := [("_law_k", 2)]) (g := gName 2) rfl sc__law_is.nd (pi_range1 (by rfl) T.z_range (pa_cons (pe_callB call_len_seq (by rfl) T.z_len (by decide +kernel) (pa_cons (pv 1) pa_nil)) pa_nil)) (blkOk_by (own := [("_law_k", 2)]) (N := N__law_is) (sc := defScope s__law_is) (by decide +kernel)) (fun _ _ _ _ _ => (pg_name (i := 2) sc__law_is.nd rfl (by first | exact Or.inl rfl | exact Or.inr rfl))) (fun _ _ _ _ _ => pts_nil) (fun _ _ _ _ _ => (pe_cl c__law_is hr (Nat.le_refl _) (by rfl) (pa_cons (pe_ix (ix_seqK (K := K) rfl) (pv 0) (pv 2) (fun _ _ => rfl)) (pa_cons (pe_ix (ix_seqK (K := K) rfl) (pv 1) (pv 2) (fun _ _ => rfl)) pa_nil))))) pa_nil))))))) pss_nil)
        (pss_cons (ps_if (pt_val (pe_callB call_isi (by rfl) T.z_isinstance (by decide +kernel) (pa_cons (pv 1) (pa_cons (pe_bltn (v := .ty "dict") (by rfl) T.z_dict (by decide +kernel) rfl) pa_nil)))) pss_never pss_nil)
        (pss_one (ps_ret (pe_and (pe_cmpR op_eq (pe_callB call_isi (by rfl) T.z_isinstance (by decide +kernel) (pa_cons (pv 0) (pa_cons (pe_bltn (v := .ty "bool") (by rfl) T.z_bool (by decide +kernel) rfl) pa_nil))) (pe_callB call_isi (by rfl) T.z_isinstance (by decide +kernel) (pa_cons (pv 1) (pa_cons (pe_bltn (v := .ty "bool") (by rfl) T.z_bool (by decide +kernel) rfl) pa_nil))) (nomark _)) (pe_one (pe_cmpR op_eq (pv 0) (pv 1) (nomark _)))))))), ?_⟩
    have hd' : (∃ (x : V) (t : String) (b : Bool), u = x ∧ v = x ∧ (∀ H', TyX K H' x (.type t)) ∧ kitB t "tuple" = some false ∧ kitB t "list" = some false ∧ kitB t "dict" = some false ∧ kitB t "bool" = some b ∧ scal x x = true) ∨ (∃ (m : Nat) (a b : Addr) (us ws : List V) (ds : List D), n = m + 1 ∧ u = .ref a ∧ v = .ref b ∧ H a = some (.tup us) ∧ H b = some (.tup ws) ∧ RpL H us ds ∧ RpL H ws ds ∧ (∀ d ∈ ds, Lv m d) ∧ ds.length ≤ 1000) ∨ (∃ (m : Nat) (a b : Addr) (us ws : List V) (ds : List D), n = m + 1 ∧ u = .ref a ∧ v = .ref b ∧ H a = some (.lst us) ∧ H b = some (.lst ws) ∧ RpL H us ds ∧ RpL H ws ds ∧ (∀ d ∈ ds, Lv m d) ∧ ds.length ≤ 1000) := by
      rcases hd with ⟨d, lv, r1, r2⟩ | h
      · cases lv with
        | non => exact .inl ⟨_, "NoneType", false, r1.non_inv, r2.non_inv, (fun _ => .base .non), (by decide +kernel), (by decide +kernel), (by decide +kernel), (by decide +kernel), rfl⟩
        | bl b => exact .inl ⟨_, "bool", true, r1.bl_inv, r2.bl_inv, (fun _ => .base (.bl _)), (by decide +kernel), (by decide +kernel), (by decide +kernel), (by decide +kernel), rfl⟩
        | int i => exact .inl ⟨_, "int", false, r1.int_inv, r2.int_inv, (fun _ => .base (.int _)), (by decide +kernel), (by decide +kernel), (by decide +kernel), (by decide +kernel), rfl⟩
        | str z => exact .inl ⟨_, "str", false, r1.str_inv, r2.str_inv, (fun _ => .base (.str _)), (by decide +kernel), (by decide +kernel), (by decide +kernel), (by decide +kernel), rfl⟩
        | @tup m ds lv hl =>
          obtain ⟨a, us, rfl, ha, ru⟩ := r1.inv
          obtain ⟨b, ws, rfl, hb, rw⟩ := r2.inv
          exact .inr (.inl ⟨m, a, b, us, ws, ds, rfl, rfl, rfl, ha, hb, ru, rw, lv, hl⟩)
      · exact .inr (.inr h)
    rcases hd' with ⟨x, t, b, rfl, rfl, ty, k1, k2, k3, k4, sc⟩ | ⟨m, a, b, us, ws, ds, rfl, rfl, rfl, ha, hb, ru, rw, lv, hl⟩ | ⟨m, a, b, us, ws, ds, rfl, rfl, rfl, ha, hb, ru, rw, lv, hl⟩
    · refine ⟨_, rfl, line (by simp), fun p np => ⟨_, p, _, .type t, [.type "tuple", .type "list"], false, rfl, upd_same, .cons (.ty _) (.cons (.ty _) .nil), ty _, kit2 k1 k2, false, rfl, iteF ?_⟩⟩
      have s1 := same_new (o := .tup [.ty "tuple", .ty "list"]) np
      refine ⟨_, rfl, _, _, _, _, false, rfl, .ty _, ty _, kit_ty k3, false, rfl, iteF ?_⟩
      refine ⟨_, rfl, _, _, _, _, b, rfl, .ty _, ty _, kit_ty k4, _, rfl, _, _, _, _, b, rfl, .ty _, ty _, kit_ty k4, rfl, ?_⟩
      rw [dec_bl_eq]
      refine ⟨true, rfl, iteT ⟨_, rfl, _, rfl, sc, ?_⟩⟩
      show Q (V.bl (decide (_ = _))) _
      rw [dec_self]
      exact q _ s1
    · refine ⟨_, rfl, line (by simp), fun p np => ⟨_, p, _, .type "tuple", [.type "tuple", .type "list"], true, rfl, upd_same, .cons (.ty _) (.cons (.ty _) .nil), .base (.tup (same_new np _ _ hb)), kit2 (r1 := true) (r2 := false) (by decide +kernel) (by decide +kernel), true, rfl, iteT ?_⟩⟩
      have s1 := same_new (o := .tup [.ty "tuple", .ty "list"]) np
      have ha1 := s1 _ _ ha
      have hb1 := s1 _ _ hb
      have ru1 := ru.same s1
      have rw1 := rw.same s1
      have lu := ru.len
      have lw := rw.len
      generalize upd H p (.tup [.ty "tuple", .ty "list"]) = H1 at s1 ha1 hb1 ru1 rw1 ⊢
      refine ⟨_, rfl, _, _, _, _, true, rfl, .ty _, .base (.tup ha1), kit_ty (by decide +kernel), _, rfl, _, _, _, _, true, rfl, .ty _, .base (.tup hb1), kit_ty (by decide +kernel), rfl, _, rfl, ?_⟩
      rw [dec_bl_eq]
      refine iteNT ⟨_, rfl, _, _, _, _, false, rfl, .ty _, .base (.tup ha1), kit_ty (by decide +kernel), _, rfl, _, _, _, _, false, rfl, .ty _, .base (.tup hb1), kit_ty (by decide +kernel), rfl, _, rfl, ?_⟩
      rw [dec_bl_eq]
      refine iteNT ⟨_, rfl, a, _, rfl, .inr (sqT ha1), _, rfl, b, _, rfl, .inr (sqT hb1), rfl, ?_⟩
      rw [decide_eq_true (by rw [lu, lw])]
      refine ⟨true, rfl, iteT ⟨_, rfl, b, _, rfl, .inr (sqT hb1), _, rfl, by omega, by omega, fun D1 n1 => lc_sel walk_range (fun i => some (.bl true)) n1 (fun _ _ => trivial) (by omega) (fun i x H2 H3 Kp Kn hi s y kp kn => ?_) (fun H2 s2 e2 => ?_)⟩⟩
      · obtain ⟨rfl, rfl⟩ := y
        have hi' : i < ds.length := by omega
        obtain ⟨u, hu, ru2⟩ := ru1.get (List.getElem?_eq_getElem hi')
        obtain ⟨v, hv, rv2⟩ := rw1.get (List.getElem?_eq_getElem hi')
        refine ⟨rfl, yes ⟨_, rfl, _, rfl, .inr (.inl ⟨a, us, _, u, rfl, rfl, sqT (s _ _ ha1), at_of (Int.zero_add _) hu, _, rfl, _, rfl, .inr (.inl ⟨b, ws, _, v, rfl, rfl, sqT (s _ _ hb1), at_of (Int.zero_add _) hv, ?_⟩)⟩)⟩⟩
        exact ⟨u, v, rfl, .inl ⟨ds[i], lv _ (List.getElem_mem hi'), ru2.same s, rv2.same s⟩, fun H5 s5 => kp _ _ s5 rfl⟩
      · rw [sel_bl] at e2
        refine ⟨D1, _, rfl, sqL e2, ?_⟩
        rw [all_sel fun _ _ => rfl]
        exact q _ (s1.trans s2)
    · refine ⟨_, rfl, line (by simp), fun p np => ⟨_, p, _, .type "list", [.type "tuple", .type "list"], true, rfl, upd_same, .cons (.ty _) (.cons (.ty _) .nil), .base (.lst (same_new np _ _ hb)), kit2 (r1 := false) (r2 := true) (by decide +kernel) (by decide +kernel), true, rfl, iteT ?_⟩⟩
      have s1 := same_new (o := .tup [.ty "tuple", .ty "list"]) np
      have ha1 := s1 _ _ ha
      have hb1 := s1 _ _ hb
      have ru1 := ru.same s1
      have rw1 := rw.same s1
      have lu := ru.len
      have lw := rw.len
      generalize upd H p (.tup [.ty "tuple", .ty "list"]) = H1 at s1 ha1 hb1 ru1 rw1 ⊢
      refine ⟨_, rfl, _, _, _, _, false, rfl, .ty _, .base (.lst ha1), kit_ty (by decide +kernel), _, rfl, _, _, _, _, false, rfl, .ty _, .base (.lst hb1), kit_ty (by decide +kernel), rfl, _, rfl, ?_⟩
      rw [dec_bl_eq]
      refine iteNT ⟨_, rfl, _, _, _, _, true, rfl, .ty _, .base (.lst ha1), kit_ty (by decide +kernel), _, rfl, _, _, _, _, true, rfl, .ty _, .base (.lst hb1), kit_ty (by decide +kernel), rfl, _, rfl, ?_⟩
      rw [dec_bl_eq]
      refine iteNT ⟨_, rfl, a, _, rfl, .inl (sqL ha1), _, rfl, b, _, rfl, .inl (sqL hb1), rfl, ?_⟩
      rw [decide_eq_true (by rw [lu, lw])]
      refine ⟨true, rfl, iteT ⟨_, rfl, b, _, rfl, .inl (sqL hb1), _, rfl, by omega, by omega, fun D1 n1 => lc_sel walk_range (fun i => some (.bl true)) n1 (fun _ _ => trivial) (by omega) (fun i x H2 H3 Kp Kn hi s y kp kn => ?_) (fun H2 s2 e2 => ?_)⟩⟩
      · obtain ⟨rfl, rfl⟩ := y
        have hi' : i < ds.length := by omega
        obtain ⟨u, hu, ru2⟩ := ru1.get (List.getElem?_eq_getElem hi')
        obtain ⟨v, hv, rv2⟩ := rw1.get (List.getElem?_eq_getElem hi')
        refine ⟨rfl, yes ⟨_, rfl, _, rfl, .inl ⟨a, us, _, u, rfl, rfl, sqL (s _ _ ha1), at_of (Int.zero_add _) hu, _, rfl, _, rfl, .inl ⟨b, ws, _, v, rfl, rfl, sqL (s _ _ hb1), at_of (Int.zero_add _) hv, ?_⟩⟩⟩⟩
        exact ⟨u, v, rfl, .inl ⟨ds[i], lv _ (List.getElem_mem hi'), ru2.same s, rv2.same s⟩, fun H5 s5 => kp _ _ s5 rfl⟩
      · rw [sel_bl] at e2
        refine ⟨D1, _, rfl, sqL e2, ?_⟩
        rw [all_sel fun _ _ => rfl]
        exact q _ (s1.trans s2)
end
end Nm


set_option Elab.async false
set_option linter.all false
set_option maxRecDepth 100000
set_option maxHeartbeats 4000000
namespace Nm
open PySem PySem.Spec PyProof.Rows L2
/-! ### sorted lists of numbers -/
def srt (l : List Int) : List Int := l.mergeSort fun a b => decide (a ≤ b)
theorem srt_perm (l : List Int) : (srt l).Perm l := List.mergeSort_perm l _
theorem srt_asc (l : List Int) : (srt l).Pairwise (· ≤ ·) := by
  have h := List.pairwise_mergeSort (le := fun a b : Int => decide (a ≤ b)) (fun a b c h1 h2 => by simp at h1 h2 ⊢; omega) (fun a b => by simp; omega) l
  exact h.imp fun {a b} h => by simpa using h
theorem srt_eq {l l' : List Int} (p : l'.Perm l) (s : l'.Pairwise (· ≤ ·)) : l' = srt l :=
  List.Perm.eq_of_pairwise (fun a b _ _ h1 h2 => Int.le_antisymm h1 h2) s (srt_asc l) (p.trans (srt_perm l).symm)
theorem srt_mem {l : List Int} {z : Int} : z ∈ srt l ↔ z ∈ l := (srt_perm l).mem_iff
theorem srt_len (l : List Int) : (srt l).length = l.length := (srt_perm l).length_eq
theorem countP_sel {β : Type} (p : β → Bool) (f : Nat → Option β) {γ : Type} (g : Nat → Option γ) : ∀ n : Nat, (∀ i, i < n → (g i = none ↔ ∀ y, f i = some y → p y = false)) → (sel n f).countP p = (sel n g).length
  | 0, _ => rfl
  | n + 1, h => by
    have ih := countP_sel p f g n fun i hi => h i (by omega)
    have hn := h n (by omega)
    cases ef : f n with
    | none =>
      rw [sel_none ef, sel_none (hn.mpr fun y e => by rw [ef] at e; cases e)]
      exact ih
    | some y =>
      rw [sel_some ef, List.countP_append, ih]
      cases ep : p y with
      | true =>
        cases eg : g n with
        | none => have := hn.mp eg y ef; rw [ep] at this; cases this
        | some z => rw [sel_some eg, List.length_append]; simp [ep]
      | false =>
        rw [sel_none (hn.mpr fun z e => by rw [ef] at e; rw [← Option.some.inj e]; exact ep)]
        simp [ep]
/-- the old names of the cells -/
def olds (cells : List Cell) : List Int := sel cells.length fun i => (cells.getD i none).map (·.1)
theorem olds_rank (cells : List Cell) (o : Int) : (olds cells).countP (fun z => decide (z < o)) = rank cells o := by
  unfold olds rank
  refine countP_sel _ _ _ _ fun i hi => ?_
  cases e : cells.getD i none with
  | none => exact ⟨fun _ y z => (by cases z), fun _ => rfl⟩
  | some c =>
    obtain ⟨a, b⟩ := c
    show (if a < o then some a else none) = none ↔ _
    by_cases q : a < o
    · rw [if_pos q]
      refine ⟨fun z => (by cases z), fun z => ?_⟩
      have := z a rfl
      rw [decide_eq_true q] at this
      cases this
    · rw [if_neg q]
      exact ⟨fun _ y z => by rw [← Option.some.inj z]; exact decide_eq_false q, fun _ => rfl⟩
theorem mem_olds {cells : List Cell} {h : Nat} {o w : Int} (hc : cells.getD h none = some (o, w)) (hh : h < cells.length) : o ∈ olds cells := mem_sel.mpr ⟨h, hh, by rw [hc]; rfl⟩
/-- where the law finds a name among the sorted -/
theorem olds_index {cells : List Cell} {h : Nat} {o w : Int} (hc : cells.getD h none = some (o, w)) (hh : h < cells.length) :
    (srt (olds cells))[rank cells o]? = some o ∧ ∀ m : Nat, m < rank cells o → ∃ z, (srt (olds cells))[m]? = some z ∧ z < o := by
  have e : (srt (olds cells)).countP (fun z => decide (z < o)) = rank cells o := by
    rw [← olds_rank]
    exact (srt_perm _).countP_eq _
  have i := index_sorted (srt (olds cells)) o (srt_asc _) (srt_mem.mpr (mem_olds hc hh))
  rw [← e]
  exact i
theorem turns_wish {cells : List Cell} {h : Nat} {o w : Int} (hc : cells.getD h none = some (o, w)) : turns (srt (taken cells h)) (rank cells o + 1) = wish cells h o := by
  obtain ⟨x, e1, f1⟩ := turns_free (srt_asc (taken cells h)) (fun z => srt_mem) (rank cells o)
  obtain ⟨y, e2, f2⟩ := wish_free hc
  rw [e1, e2, f1.uniq f2]
end Nm
namespace Nm
open PySem PySem.Spec PyProof.Rows L2
/-- [v] * n -/
def rRepL : R2 := fun x y H Q => ∃ (l : Addr) (v : V) (k : Nat), x = .ref l ∧ y = .int (k : Nat) ∧ H l = some (.lst [v]) ∧ k ≤ 1000 ∧ ∀ H' p, Same H H' → H p = none → H' p = some (.lst (List.replicate k v)) → Q (.ref p) H'
theorem flat_rep (n : Nat) (v : V) : (List.replicate ((n : Nat) : Int).toNat [v]).flatten = List.replicate n v := by
  rw [Int.toNat_natCast]
  simp
theorem op_repL {X : Cx} : OpR X (binaryOp .Mult) rRepL := by
  intro pins s σ H x y v u Q I rx ry h
  obtain ⟨l, z, k, rfl, rfl, hl, hk, q⟩ := h
  refine op_rep pins s σ H _ _ v u Q I rx ry ⟨l, _, [z], rfl, rfl, hl, by omega, by omega, line (by simp; omega), fun p hp => q _ p (same_new hp) hp ?_⟩
  rw [upd_same, flat_rep]
end Nm


set_option Elab.async false
set_option linter.all false
set_option maxRecDepth 100000
set_option maxHeartbeats 8000000
namespace Nm
open PySem PySem.Spec PyProof.Rows L2
theorem rpl_rep {H : Hp} {v : V} {d : D} (n : Nat) (r : Rp H v d) : RpL H (List.replicate n v) (List.replicate n d) :=
  ⟨by simp, fun i v d h1 h2 => by
    rw [List.getElem?_replicate] at h1 h2
    split at h1
    · rename_i q1
      rw [if_pos q1] at h2
      cases h1; cases h2
      exact r
    · cases h1⟩
section
variable {P : Program} {w : World} {K : PySem.W.Frag} {mg : Str → Option Value} {base : Heap}
abbrev s__law_begin : Stmt := top 118
abbrev N__law_begin : List Str := ["_law_kind", "_law_rows", "_law_many", "_law_cells", "_law_states", "_law_value"]
abbrev p__law_begin : List Str := ["_law_kind", "_law_rows"]
theorem sc__law_begin : FnScope N__law_begin p__law_begin (defScope s__law_begin) := ⟨rfl, rfl, rfl, by decide +kernel, rfl, by decide +kernel, by decide +kernel⟩

def sp_law_begin (K : PySem.W.Frag) : Sp := fun vs H Q _ => ∃ (r : Addr) (rows : List Int), vs = [.str "names", .ref r] ∧ H r = some (.tup (rows.map V.int)) ∧ 1 ≤ rows.length ∧ rows.length ≤ 5 ∧ ∀ H' a, Same H H' → Rp H' (.ref a) (dS (begun rows.length)) → Q (.ref a) H'
theorem wk__law_begin (T : Fx K mg) (a_ : At K mg "_law_begin" s__law_begin p__law_begin) : Cl P w K mg base 1 "_law_begin" p__law_begin (sp_law_begin K) := by
  refine a_.cl sc__law_begin (fun vs H Q E h => ?_) (fun f_ cdv A outer s_ H vs Q E hr h => ?_)
  · obtain ⟨r, rows, rfl, _⟩ := h
    rfl
  · obtain ⟨r, rows, rfl, e0, h1, h5, q⟩ := h
    refine ⟨_, (pss_cons (ps_set (i := 2) sc__law_begin.nd rfl (by first | exact Or.inl rfl | exact Or.inr rfl) (pe_callB call_len_seq (by rfl) T.z_len (by decide +kernel) (pa_cons (pv 1) pa_nil)))
        (pss_cons (ps_par (i := 3) (j := 4) (by rfl) sc__law_begin.nd rfl rfl (by decide) rfl rfl (pa_cons (pe_op op_repL (pe_lst (pa_cons pe_non pa_nil)) (pv 2)) (pa_cons (pe_op op_repL (pe_lst (pa_cons (pe_tup (pa_cons pe_bl pa_nil)) pa_nil)) (pv 2)) pa_nil)) (by rfl))
        (pss_cons (ps_if (pt_cmpR op_eq (pv 0) pe_str (nomark _)) pss_never (pss_one (ps_if (pt_cmpR op_eq (pv 0) pe_str (nomark _)) (pss_one (ps_set (i := 4) sc__law_begin.nd rfl (by first | exact Or.inl rfl | exact Or.inr rfl) (pe_op op_repL (pe_lst (pa_cons (pe_tup (pa_cons pe_int (pa_cons pe_bl pa_nil))) pa_nil)) (pv 2)))) pss_never)))
        (pss_one (ps_ret (pe_tup (pa_cons (pe_callTy call_tuple_of (by rfl) T.z_tuple (by decide +kernel) (pa_cons (pv 3) pa_nil)) (pa_cons (pe_callTy call_tuple_of (by rfl) T.z_tuple (by decide +kernel) (pa_cons (pv 4) pa_nil)) (pa_cons (pe_op op_repB (pe_tup (pa_cons (pe_tup pa_nil) pa_nil)) (pv 2)) pa_nil))))))))), ?_⟩
    refine ⟨_, rfl, r, _, rfl, .inr (sqT e0), ?_⟩
    rw [List.length_map]
    refine ⟨line (by simp), fun l1 m1 => ⟨_, rfl, l1, .non, rows.length, rfl, rfl, upd_same, by omega, fun H1 c1 s1 n1 ec => ⟨line (by simp), fun t1 k1 => ⟨line (by simp), fun l2 m2 => ⟨_, rfl, l2, .ref t1, rows.length, rfl, rfl, upd_same, by omega, fun H2 c2 s2 n2 _ => ?_⟩⟩⟩⟩⟩
    have s12 := (sNew (same_new k1) m2).trans s2
    have s02 := ((same_new m1).trans s1).trans s12
    have ec := s12 _ _ ec
    refine ⟨_, _, rfl, _, rfl, rfl, _, rfl, ?_⟩
    rw [not_levels]
    refine iteF ⟨_, rfl, rfl, _, rfl, ?_⟩
    rw [is_names]
    refine iteT ⟨line (by simp), fun t2 k2 => ⟨line (by simp), fun l3 m3 => ⟨_, rfl, l3, .ref t2, rows.length, rfl, rfl, upd_same, by omega, fun H3 c3 s3 n3 e3 => ?_⟩⟩⟩
    have et := s3 _ _ (same_new m3 _ _ (upd_same (H := H2) (a := t2) (o := .tup [.int 1, .bl false])))
    have s23 := (sNew (same_new k2) m3).trans s3
    have s0 := s02.trans s23
    have ec := s23 _ _ ec
    refine ⟨_, rfl, c1, _, rfl, .inl ⟨sqL ec, fun c nc => ⟨_, rfl, c3, _, rfl, .inl ⟨sqL (same_new nc _ _ e3), fun s ns => ?_⟩⟩⟩⟩
    have sI := same_new (o := .tup (List.replicate rows.length V.non)) nc
    have sJ := same_new (o := .tup (List.replicate rows.length (V.ref t2))) ns
    have eI := sJ _ _ (upd_same (H := H3) (a := c) (o := .tup (List.replicate rows.length V.non)))
    have eJ := upd_same (H := upd H3 c (.tup (List.replicate rows.length V.non))) (a := s) (o := .tup (List.replicate rows.length (V.ref t2)))
    have et := sJ _ _ (sI _ _ et)
    have s0 := (s0.trans sI).trans sJ
    generalize upd (upd H3 c (.tup (List.replicate rows.length V.non))) s (.tup (List.replicate rows.length (V.ref t2))) = H4 at s0 et eI eJ ⊢
    refine ⟨line (by simp), fun t0 m0 => ⟨line (by simp), fun t4 m4 => ⟨_, rfl, t4, _, _, rfl, rfl, upd_same, by simp, by omega, by omega, by simp, fun H5 tt s3 e3 => ⟨line (by simp), fun a na => ?_⟩⟩⟩⟩
    rw [flat_rep] at e3
    have sK := same_new (o := .tup []) m0
    have sL := same_new (o := .tup [.ref t0]) m4
    have e0 := s3 _ _ (sL _ _ (upd_same (H := H4) (a := t0) (o := .tup [])))
    have sM := same_new (o := .tup [.ref c, .ref s, .ref tt]) na
    have k2 := ((sK.trans sL).trans s3).trans sM
    refine q _ a (s0.trans k2) (.mk3 upd_same ?_ ?_ ?_)
    · refine .mk (k2 _ _ eI) ?_
      show RpL _ _ ((List.replicate rows.length none).map dC)
      rw [map_rep]
      exact rpl_rep _ .non
    · refine .mk (k2 _ _ eJ) ?_
      show RpL _ _ ((List.replicate rows.length (some (1, false))).map dT)
      rw [map_rep]
      exact rpl_rep _ (.mk2 (k2 _ _ et) (.int _) (.bl _))
    · refine .mk (sM _ _ e3) ?_
      show RpL _ _ ((List.replicate rows.length []).map dW)
      rw [map_rep]
      exact rpl_rep _ (.mk (sM _ _ e0) .nil)
abbrev s__law_next : Stmt := top 119
abbrev N__law_next : List Str := ["_law_kind", "_law_state"]
abbrev p__law_next : List Str := ["_law_kind", "_law_state"]
theorem sc__law_next : FnScope N__law_next p__law_next (defScope s__law_next) := ⟨rfl, rfl, rfl, by decide +kernel, rfl, by decide +kernel, by decide +kernel⟩

def sp_law_next (K : PySem.W.Frag) : Sp := fun vs H Q _ => ∃ (v : V) (w : Int) (b : Bool), vs = [.str "names", v] ∧ Rp H v (dT (some (w, b))) ∧ ∀ H' a, Same H H' → Rp H' (.ref a) (.tup [.str (if b = true then "see" else "put")]) → Q (.ref a) H'
theorem wk__law_next (T : Fx K mg) (a_ : At K mg "_law_next" s__law_next p__law_next) : Cl P w K mg base 1 "_law_next" p__law_next (sp_law_next K) := by
  refine a_.cl sc__law_next (fun vs H Q E h => ?_) (fun f_ cdv A outer s_ H vs Q E hr h => ?_)
  · obtain ⟨v, w, b, rfl, _⟩ := h
    rfl
  · obtain ⟨v, w, b, rfl, hv, q⟩ := h
    refine ⟨_, (pss_cons (ps_if (pt_cmpR op_eq (pv 0) pe_str (nomark _)) pss_never pss_nil)
        (pss_one (ps_ret (pe_ifExp (pt_val (pe_ix ix_tup (pv 1) (pe_un un_neg pe_int) (fun _ _ => rfl))) (pe_tup (pa_cons pe_str pa_nil)) (pe_tup (pa_cons pe_str pa_nil)))))), ?_⟩
    obtain ⟨a, v1, v2, rfl, ha, r1, r2⟩ := rp2 hv
    obtain rfl := r1.int_inv
    obtain rfl := r2.bl_inv
    refine ⟨_, rfl, rfl, _, rfl, ?_⟩
    rw [not_levels]
    refine iteF ⟨_, rfl, 1, rfl, a, _, -1, .bl b, rfl, rfl, sqT ha, at2 _ _, b, rfl, ?_⟩
    cases b with
    | true => exact iteT ⟨line (by simp), fun t nt => q _ t (same_new nt) (.mk1 upd_same (.str _))⟩
    | false => exact iteF ⟨line (by simp), fun t nt => q _ t (same_new nt) (.mk1 upd_same (.str _))⟩
abbrev s__law_left : Stmt := top 125
abbrev N__law_left : List Str := ["_law_standing", "_law_one"]
abbrev p__law_left : List Str := ["_law_standing"]
theorem sc__law_left : FnScope N__law_left p__law_left (defScope s__law_left) := ⟨rfl, rfl, rfl, by decide +kernel, rfl, by decide +kernel, by decide +kernel⟩

def sp_law_left (K : PySem.W.Frag) : Sp := fun vs H Q _ => ∃ (v : V) (S : Sd), vs = [v] ∧ Rp H v (dS S) ∧ S.states.length ≤ 5 ∧ ∀ H' a, Same H H' → H' a = some (.tup ((left S).map vN)) → Q (.ref a) H'
theorem wk__law_left (T : Fx K mg) (a_ : At K mg "_law_left" s__law_left p__law_left) : Cl P w K mg base 1 "_law_left" p__law_left (sp_law_left K) := by
  refine a_.cl sc__law_left (fun vs H Q E h => ?_) (fun f_ cdv A outer s_ H vs Q E hr h => ?_)
  · obtain ⟨v, S, rfl, _⟩ := h
    rfl
  · obtain ⟨v, S, rfl, hv, h5, q⟩ := h
    refine ⟨_, (pss_one (ps_ret (pe_callTy call_tuple_of (by rfl) T.z_tuple (by decide +kernel) (pa_cons (pe_lc (own := [("_law_one", 1)]) (g := gName 1) rfl sc__law_left.nd (pi_range1 (by rfl) T.z_range (pa_cons (pe_callB call_len_seq (by rfl) T.z_len (by decide +kernel) (pa_cons (pe_ix ix_tup (pv 0) pe_int (fun _ _ => rfl)) pa_nil)) pa_nil)) (blkOk_by (own := [("_law_one", 1)]) (N := N__law_left) (sc := defScope s__law_left) (by decide +kernel)) (fun _ _ _ _ _ => (pg_name (i := 1) sc__law_left.nd rfl (by first | exact Or.inl rfl | exact Or.inr rfl))) (fun _ _ _ _ _ => pts_one (pt_cmpR op_notN (pe_ix (ix_tupK (K := K) rfl) (pe_ix (ix_tupK (K := K) rfl) (pv 0) pe_int (fun _ _ => rfl)) (pv 1) (fun _ _ => rfl)) pe_non (nomark _))) (fun _ _ _ _ _ => (pv 1))) pa_nil)))), ?_⟩
    obtain ⟨a, c, s, t, cvs, svs, tvs, rfl, ha, hc, rc, hs, rs, ht, rt⟩ := rpS hv
    have hl := rs.len'
    refine ⟨_, rfl, a, _, 1, _, rfl, rfl, sqT ha, atI_nat (j := 1) rfl, s, _, rfl, .inr (sqT hs), _, rfl, by omega, by omega, fun D1 n1 => lc_sel walk_range (fun i => if S.states.getD i none = none then none else some (vN i)) n1 (fun _ _ => trivial) (by omega) (fun i x H2 H3 Kp Kn hi s' y kp kn => ?_) (fun H2 s2 e2 => ?_)⟩
    · obtain ⟨rfl, rfl⟩ := y
      obtain ⟨v, hv2, rv⟩ := rs.getD (i := i) (by omega) none
      refine ⟨rfl, _, rfl, a, _, 1, _, rfl, rfl, sqT (s' _ _ ha), atI_nat (j := 1) rfl, _, rfl, s, _, _, _, rfl, rfl, sqT (s' _ _ hs), at_of (Int.zero_add _) hv2, rfl, _, rfl, ?_⟩
      rcases rpT (rv.same s') with ⟨ec, rfl⟩ | ⟨o', w', a', ec, rfl, ha'⟩
      · exact iteNS rfl (kn _ (Same.refl _) (by rw [ec]; rfl))
      · exact iteNN (by simp) ⟨_, rfl, kp _ _ (Same.refl _) (by rw [ec]; show some (V.int (i : Int)) = some (V.int (0 + (i : Int))); rw [Int.zero_add])⟩
    have e2' : H2 D1 = some (.lst ((left S).map vN)) := by
      rw [e2]
      unfold left
      rw [sel_map, show ((svs.length : Nat) : Int).toNat = S.states.length by omega]
      refine congrArg (fun z => some (HO.lst z)) (sel_congr fun i hi => ?_)
      by_cases e : S.states.getD i none = none
      · rw [if_pos e, if_pos e]; rfl
      · rw [if_neg e, if_neg e]; rfl
    exact ⟨D1, _, rfl, .inl ⟨sqL e2', fun b nb => q _ b (sNew s2 nb) upd_same⟩⟩
end
end Nm


set_option Elab.async false
set_option linter.all false
set_option maxRecDepth 100000
set_option maxHeartbeats 8000000
namespace Nm
open PySem PySem.Spec PyProof.Rows L2
section
variable {P : Program} {w : World} {K : PySem.W.Frag} {mg : Str → Option Value} {base : Heap}
abbrev s__law_name : Stmt := top 121
abbrev N__law_name : List Str := ["_law_rows", "_law_cells", "_law_hand_here", "_law_state", "_law_wish", "_law_is_put", "_law_taken", "_law_rank", "_law_turn", "_law_one", "_law_cell"]
abbrev p__law_name : List Str := ["_law_rows", "_law_cells", "_law_hand_here", "_law_state"]
theorem sc__law_name : FnScope N__law_name p__law_name (defScope s__law_name) := ⟨rfl, rfl, rfl, by decide +kernel, rfl, by decide +kernel, by decide +kernel⟩

def sp_law_name (K : PySem.W.Frag) : Sp := fun vs H Q _ => ∃ (r : Addr) (rows : List Int) (c : Addr) (cvs : List V) (cells : List Cell) (h : Nat) (v : V) (w : Int) (b : Bool), vs = [.ref r, .ref c, vN h, v] ∧ H r = some (.tup (rows.map V.int)) ∧ H c = some (.tup cvs) ∧ RpL H cvs (cells.map dC) ∧
  cells.length = rows.length ∧ rows.length ≤ 5 ∧ h < rows.length ∧ Rp H v (dT (some (w, b))) ∧ (b = true → cells.getD h none = some (rows.getD h 0, w)) ∧ ∀ H' a, Same H H' → Rp H' (.ref a) (dA (aft rows cells h w b)) → Q (.ref a) H'
theorem wk__law_name (T : Fx K mg) (a_ : At K mg "_law_name" s__law_name p__law_name) : Cl P w K mg base 1 "_law_name" p__law_name (sp_law_name K) := by
  refine a_.cl sc__law_name (fun vs H Q E h => ?_) (fun f_ cdv A outer s_ H vs Q E hr h => ?_)
  · obtain ⟨r, rows, c, cvs, cells, h0, v, w, b, rfl, _⟩ := h
    rfl
  · obtain ⟨r, rows, c, cvs, cells, h0, v, w, b, rfl, er, hc, rc, lc, h5, hh, hv, hb, q⟩ := h
    refine ⟨_, (pss_cons (ps_asg (pv 3) (pg_tup rfl (pgs_cons (pg_name (i := 4) sc__law_name.nd rfl (by first | exact Or.inl rfl | exact Or.inr rfl)) (pgs_cons (pg_name (i := 5) sc__law_name.nd rfl (by first | exact Or.inl rfl | exact Or.inr rfl)) pgs_nil))))
        (pss_cons (ps_if (pt_not (pt_val (pv 5))) (pss_one (ps_ret (pe_tup (pa_cons (pe_tup (pa_cons (pe_ix ix_tup (pv 0) (pv 2) (fun _ _ => rfl)) (pa_cons (pv 4) pa_nil))) (pa_cons (pe_tup (pa_cons (pv 4) (pa_cons pe_bl pa_nil))) (pa_cons pe_non pa_nil)))))) pss_nil)
        (pss_cons (ps_setLc (i := 6) (own := [("_law_one", 9)]) (g := gName 9) rfl sc__law_name.nd rfl rfl (sw_true rfl rfl rfl (by decide +kernel)) (pi_range1 (by rfl) T.z_range (pa_cons (pe_callB call_len_seq (by rfl) T.z_len (by decide +kernel) (pa_cons (pv 1) pa_nil)) pa_nil)) (blkOk_by (own := [("_law_one", 9)]) (N := N__law_name) (sc := defScope s__law_name) (by decide +kernel)) (fun _ _ _ _ _ => (pg_name (i := 9) sc__law_name.nd rfl (by first | exact Or.inl rfl | exact Or.inr rfl))) (fun _ _ _ _ _ => pts_one (PW.pt (pw_and (pt_cmpR op_ne (pv 9) (pv 2) (nomark _)) (pw_and1 (pt_cmpR op_notN (pe_ix (ix_tupK (K := K) rfl) (pv 1) (pv 9) (fun _ _ => rfl)) pe_non (nomark _)))))) (fun _ _ _ _ _ => (pe_ix (ix_tupK (K := K) rfl) (pe_ix (ix_tupK (K := K) rfl) (pv 1) (pv 9) (fun _ _ => rfl)) pe_int (fun _ _ => rfl))))
        (pss_cons (ps_if (pt_cmpR op_notIn_seq (pv 4) (pv 6) (by rfl)) (pss_one (ps_ret (pe_tup (pa_cons pe_non (pa_cons pe_non (pa_cons (pv 4) pa_nil)))))) pss_nil)
        (pss_cons (ps_set (i := 7) sc__law_name.nd rfl (by first | exact Or.inl rfl | exact Or.inr rfl) (pe_bm PySem.F.plainAttrs_list PySem.F.slot_list_index PySem.F.type_list_index mt_index (pe_callB cr_sortedI (by rfl) T.z_sorted (by decide +kernel) (pa_cons (pe_lc (own := [("_law_cell", 10)]) (g := gName 10) rfl sc__law_name.nd (pi_tup (pv 1)) (blkOk_by (own := [("_law_cell", 10)]) (N := N__law_name) (sc := defScope s__law_name) (by decide +kernel)) (fun _ _ _ _ _ => (pg_name (i := 10) sc__law_name.nd rfl (by first | exact Or.inl rfl | exact Or.inr rfl))) (fun _ _ _ _ _ => pts_one (pt_cmpR op_notN (pv 10) pe_non (nomark _))) (fun _ _ _ _ _ => (pe_ix (ix_tupK (K := K) rfl) (pv 10) pe_int (fun _ _ => rfl)))) pa_nil)) (pa_cons (pe_ix ix_tup (pv 0) (pv 2) (fun _ _ => rfl)) pa_nil)))
        (pss_cons (ps_set (i := 4) sc__law_name.nd rfl (by first | exact Or.inl rfl | exact Or.inr rfl) pe_int)
        (pss_cons (ps_for PassesOwn.never rfl (pi_range1 (by rfl) T.z_range (pa_cons (pe_op op_add (pv 7) pe_int) pa_nil)) (pg_name (i := 8) sc__law_name.nd rfl (by first | exact Or.inl rfl | exact Or.inr rfl)) (pss_cons (ps_set (i := 4) sc__law_name.nd rfl (by first | exact Or.inl rfl | exact Or.inr rfl) (pe_op op_add (pv 4) pe_int))
        (pss_one (ps_for PassesOwn.never rfl (pi_list (pe_callB cr_sortedI (by rfl) T.z_sorted (by decide +kernel) (pa_cons (pv 6) pa_nil))) (pg_name (i := 9) sc__law_name.nd rfl (by first | exact Or.inl rfl | exact Or.inr rfl)) (pss_one (ps_if (pt_cmpR op_eq (pv 9) (pv 4) (nomark _)) (pss_one (ps_set (i := 4) sc__law_name.nd rfl (by first | exact Or.inl rfl | exact Or.inr rfl) (pe_op op_add (pv 4) pe_int))) pss_nil))))))
        (pss_one (ps_ret (pe_tup (pa_cons pe_non (pa_cons (pe_tup (pa_cons (pv 4) (pa_cons pe_bl pa_nil))) (pa_cons pe_non pa_nil))))))))))))), ?_⟩
    have hl := rc.len'
    obtain ⟨a, v1, v2, rfl, ha, r1, r2⟩ := rp2 hv
    obtain rfl := r1.int_inv
    obtain rfl := r2.bl_inv
    have eh : (rows.map V.int)[h0]? = some (.int (rows.getD h0 0)) := by rw [List.getElem?_map, gd_get rows h0 0 hh]; rfl
    refine ⟨_, rfl, a, _, rfl, sqT ha, rfl, _, _, rfl, _, _, rfl, rfl, ?_⟩
    refine ⟨_, rfl, b, rfl, ?_⟩
    cases b with
    | false =>
      refine iteNF ⟨_, rfl, _, rfl, r, _, (h0 : Int), _, rfl, rfl, sqT er, atI_nat eh, _, rfl, line (by simp), fun t1 m1 => ⟨_, rfl, line (by simp), fun t2 m2 => ⟨line (by simp), fun t3 m3 => ?_⟩⟩⟩
      have u2 := same_new (o := .tup [.int w, .bl true]) m2
      have u3 := same_new (o := .tup [.ref t1, .ref t2, .non]) m3
      refine q _ t3 (sNew (sNew (same_new m1) m2) m3) (.mk3 upd_same ?_ ?_ .non)
      · exact .mk2 (u3 _ _ (u2 _ _ upd_same)) (.int _) (.int _)
      · exact .mk2 (u3 _ _ upd_same) (.int _) (.bl _)
    | true =>
      refine iteNT ?_
      have ho := hb rfl
      -- taken
      refine ⟨_, rfl, c, _, rfl, .inr (sqT hc), _, rfl, by omega, by omega, fun D1 n1 => lc_sel walk_range (fun i => if i = h0 then none else (cells.getD i none).map fun z => V.int z.2) n1 (fun _ _ => trivial) (by omega) (fun i x H1 H2 Kp Kn hi s y kp kn => ?_) (fun H1 s1 e1 => ?_)⟩
      · obtain ⟨rfl, rfl⟩ := y
        obtain ⟨v, hv2, rv⟩ := rc.getD (i := i) (by omega) none
        refine ⟨rfl, _, rfl, _, rfl, rfl, _, rfl, ?_⟩
        by_cases e : i = h0
        · exact iteNS (by show V.int (0 + (i : Int)) = V.int (h0 : Int); rw [Int.zero_add, e]) (iteF (kn _ (Same.refl _) (if_pos e)))
        · refine iteNN (by simp; omega) ⟨_, rfl, _, rfl, c, cvs, _, _, rfl, rfl, sqT (s _ _ hc), at_of (Int.zero_add _) hv2, rfl, _, rfl, ?_⟩
          rcases rpC (rv.same s) with ⟨ec, rfl⟩ | ⟨o', w', a', ec, rfl, ha'⟩
          · exact iteNS rfl (kn _ (Same.refl _) (by rw [if_neg e, ec]; rfl))
          · refine iteNN (by simp) ⟨_, rfl, _, rfl, c, cvs, _, _, rfl, rfl, sqT (s _ _ hc), at_of (Int.zero_add _) hv2, a', _, 1, _, rfl, rfl, sqT ha', atI_nat (j := 1) rfl, kp _ _ (Same.refl _) ?_⟩
            rw [if_neg e, ec]; rfl
      have e1' : H1 D1 = some (.lst ((taken cells h0).map V.int)) := by
        rw [e1, show ((cvs.length : Nat) : Int).toNat = cells.length by omega]
        unfold taken
        rw [sel_map]
        refine congrArg (fun z => some (HO.lst z)) (sel_congr fun i hi => ?_)
        by_cases e : i = h0
        · rw [if_pos e, if_pos e]; rfl
        · rw [if_neg e, if_neg e]
          cases cells.getD i none <;> rfl
      refine ⟨_, rfl, _, rfl, D1, _, rfl, .inl (sqL e1'), rfl, flat_ints _, _, rfl, ?_⟩
      show if (!inV (.int w) ((taken cells h0).map V.int)) = true then _ else _
      rw [inV_ints]
      by_cases e : w ∈ taken cells h0
      · refine iteNS e ?_
        -- rank
        have hc1 := s1 _ _ hc
        have rc1 := rc.same s1
        refine ⟨_, rfl, c, rfl, ⟨_, sqT hc1⟩, fun D2 n2 => lc_sel walk_tup (fun i => (cells.getD i none).map fun z => V.int z.1) n2 (fun H' s => sqT (s _ _ hc1)) (by omega) (fun i x H2 H3 Kp Kn hi s y kp kn => ?_) (fun H2 s2 e2 => ?_)⟩
        · obtain ⟨rfl, hx⟩ := y
          obtain ⟨v, hv, rv⟩ := rc1.getD (i := i) (by omega) none
          rw [hx] at hv
          obtain rfl := Option.some.inj hv
          refine ⟨rfl, _, rfl, rfl, _, rfl, ?_⟩
          rcases rpC (rv.same s) with ⟨ec, rfl⟩ | ⟨o', w', a', ec, rfl, ha'⟩
          · exact iteNS rfl (kn _ (Same.refl _) (by rw [ec]; rfl))
          · exact iteNN (by simp) ⟨_, rfl, a', _, 0, _, rfl, rfl, sqT ha', atI_nat (j := 0) rfl, kp _ _ (Same.refl _) (by rw [ec]; rfl)⟩
        have e2' : H2 D2 = some (.lst ((olds cells).map V.int)) := by
          rw [e2, hl]
          unfold olds
          rw [sel_map]
          refine congrArg (fun z => some (HO.lst z)) (sel_congr fun i hi => ?_)
          cases cells.getD i none <;> rfl
        have s02 := s1.trans s2
        have er2 := s02 _ _ er
        have et2 := s2 _ _ e1'
        refine ⟨D2, olds cells, rfl, sqL e2', fun ns p pm sr np => ?_⟩
        obtain rfl := srt_eq pm sr
        obtain ⟨i1, i2⟩ := olds_index ho (by omega)
        have s3 := same_new (o := .lst ((srt (olds cells)).map V.int)) np
        refine ⟨.inl ⟨rfl, _, sqL upd_same⟩, _, rfl, _, rfl, r, _, (h0 : Int), _, rfl, rfl, sqT (s3 _ _ er2), atI_nat eh, p, _, _, rank cells (rows.getD h0 0), .int (rows.getD h0 0), rfl, rfl, sqL upd_same, rfl, flat_ints _, ?_, ?_, ?_, ?_⟩
        · rw [List.getElem?_map, i1]; rfl
        · simp [eqV]
        · intro m z' hm hz'
          obtain ⟨z, hz, hlt⟩ := i2 m hm
          rw [List.getElem?_map, hz] at hz'
          rw [← Option.some.inj hz']
          have ne : ¬ z = rows.getD h0 0 := by omega
          show (z == rows.getD h0 0) = false
          exact beq_eq_false_iff_ne.mpr ne
        have et3 := s3 _ _ et2
        have s03 := s02.trans s3
        generalize upd H2 p (.lst ((srt (olds cells)).map V.int)) = H3 at et3 s03 ⊢
        -- the turns
        have rk : rank cells (rows.getD h0 0) ≤ 5 := Nat.le_trans (sel_len _ _) (by omega)
        refine ⟨_, rfl, (rank cells (rows.getD h0 0) : Int), 1, rfl, rfl, _, rfl, by omega, by omega, ?_⟩
        rw [show ((rank cells (rows.getD h0 0) : Int) + 1).toNat = rank cells (rows.getD h0 0) + 1 by omega]
        have lt5 : (taken cells h0).length ≤ 5 := Nat.le_trans (sel_len _ _) (by omega)
        refine for_it walk_range (fun t σ H4 => ∃ o8 o9, σ = [some (.ref r), some (.ref c), some (vN h0), some (.ref a), some (.int (turns (srt (taken cells h0)) t)), some (.bl true), some (.ref D1), some (.int (rank cells (rows.getD h0 0))), o8, o9, none] ∧ Same H3 H4)
          ⟨none, none, rfl, Same.refl _⟩ (fun _ _ _ _ _ => trivial) (fun t x σ H4 H5 ht z y => ?_) (fun σ H4 z => ?_)
        · obtain ⟨o8, o9, rfl, s4⟩ := z
          obtain ⟨rfl, rfl⟩ := y
          have eT := s4 _ _ et3
          refine ⟨_, rfl, _, 1, rfl, rfl, _, rfl, D1, taken cells h0, rfl, sqL eT, fun ns p2 pm sr np2 => ⟨p2, rfl, ⟨_, sqL upd_same⟩, ?_⟩⟩
          obtain rfl := srt_eq pm sr
          refine for_it (walk_list (xs := (srt (taken cells h0)).map V.int)) (fun j σ H5 => ∃ o9, σ = [some (.ref r), some (.ref c), some (vN h0), some (.ref a), some (.int (scan ((srt (taken cells h0)).take j) (turns (srt (taken cells h0)) t + 1))), some (.bl true), some (.ref D1), some (.int (rank cells (rows.getD h0 0))), some (vN t), o9, none] ∧ Same H3 H5 ∧ H5 p2 = some (.lst ((srt (taken cells h0)).map V.int)))
            ⟨o9, ?_, sNew s4 np2, upd_same⟩ (fun j σ H5 _ z => ?_) (fun j x σ H5 H6 hj z y => ?_) (fun σ H5 z => ?_)
          · show _ = [_, _, _, _, _, _, _, _, some (V.int (t : Int)), _, _]
            rw [← Int.zero_add (t : Int)]
            rfl
          · obtain ⟨o9, rfl, s5, e5⟩ := z
            exact sqL e5
          · obtain ⟨o9, rfl, s5, e5⟩ := z
            obtain ⟨rfl, hx⟩ := y
            obtain ⟨u, hu, rfl⟩ := map_at hx
            have es := scan_snoc ((srt (taken cells h0)).take j) u (turns (srt (taken cells h0)) t + 1)
            rw [← take_snoc hu] at es
            refine ⟨_, rfl, _, rfl, rfl, _, rfl, ?_⟩
            by_cases q1 : u = scan ((srt (taken cells h0)).take j) (turns (srt (taken cells h0)) t + 1)
            · rw [if_pos q1] at es
              rw [decide_eq_true (by rw [q1])]
              refine iteT ⟨_, rfl, _, 1, rfl, rfl, some (.int u), ?_, s5, e5⟩
              rw [es]; rfl
            · rw [if_neg q1] at es
              rw [decide_eq_false (fun z => q1 (by cases z; rfl))]
              refine iteF ⟨some (.int u), ?_, s5, e5⟩
              rw [es]; rfl
          · obtain ⟨o9, rfl, s5, e5⟩ := z
            rw [List.length_map, List.take_length]
            exact ⟨_, _, rfl, s5⟩
        · obtain ⟨o8, o9, rfl, s4⟩ := z
          rw [turns_wish ho]
          refine ⟨_, rfl, line (by simp), fun t1 m1 => ⟨line (by simp), fun t2 m2 => ?_⟩⟩
          refine q _ t2 (s03.trans (sNew (sNew s4 m1) m2)) ?_
          rw [show aft rows cells h0 w true = (none, some (wish cells h0 (rows.getD h0 0), false), none) from by unfold aft; rw [if_pos rfl, if_pos e]]
          exact .mk3 upd_same .non (.mk2 (same_new m2 _ _ upd_same) (.int _) (.bl _)) .non
      · refine iteNN e ⟨_, rfl, line (by simp), fun t1 m1 => ?_⟩
        refine q _ t1 (sNew s1 m1) ?_
        rw [show aft rows cells h0 w true = (none, none, some w) from by unfold aft; rw [if_pos rfl, if_neg e]]
        exact .mk3 upd_same .non .non (.int _)
end
end Nm


set_option Elab.async false
set_option linter.all false
set_option maxRecDepth 100000
set_option maxHeartbeats 8000000
namespace Nm
open PySem PySem.Spec PyProof.Rows L2
section
variable {P : Program} {w : World} {K : PySem.W.Frag} {mg : Str → Option Value} {base : Heap}
abbrev s__law_moved : Stmt := top 124
abbrev N__law_moved : List Str := ["_law_kind", "_law_rows", "_law_rounds", "_law_standing", "_law_hand_here", "_law_cells", "_law_states", "_law_told", "_law_cell", "_law_state", "_law_item"]
abbrev p__law_moved : List Str := ["_law_kind", "_law_rows", "_law_rounds", "_law_standing", "_law_hand_here"]
theorem sc__law_moved : FnScope N__law_moved p__law_moved (defScope s__law_moved) := ⟨rfl, rfl, rfl, by decide +kernel, rfl, by decide +kernel, by decide +kernel⟩

def sp_law_moved (K : PySem.W.Frag) : Sp := fun vs H Q _ => ∃ (r : Addr) (rows : List Int) (v : V) (S : Sd) (h : Nat), vs = [.str "names", .ref r, .int 0, v, vN h] ∧ H r = some (.tup (rows.map V.int)) ∧ Rp H v (dS S) ∧ Ok rows S ∧ rows.length ≤ 5 ∧ S.states.getD h none ≠ none ∧
  ∀ H' a, Same H H' → Rp H' (.ref a) (dS (moved rows S h)) → Q (.ref a) H'
theorem wk__law_moved (T : Fx K mg) (a_ : At K mg "_law_moved" s__law_moved p__law_moved) (c__law_name : Cl P w K mg base 1 "_law_name" p__law_name (sp_law_name K)) (c__law_next : Cl P w K mg base 1 "_law_next" p__law_next (sp_law_next K)) : Cl P w K mg base 2 "_law_moved" p__law_moved (sp_law_moved K) := by
  refine a_.cl sc__law_moved (fun vs H Q E h => ?_) (fun f_ cdv A outer s_ H vs Q E hr h => ?_)
  · obtain ⟨r, rows, v, S, h0, rfl, _⟩ := h
    rfl
  · obtain ⟨r, rows, v, S, h0, rfl, er, hv, ok, h5, hst, q⟩ := h
    refine ⟨_, (pss_cons (ps_asg (pv 3) (pg_tup rfl (pgs_cons (pg_name (i := 5) sc__law_moved.nd rfl (by first | exact Or.inl rfl | exact Or.inr rfl)) (pgs_cons (pg_name (i := 6) sc__law_moved.nd rfl (by first | exact Or.inl rfl | exact Or.inr rfl)) (pgs_cons (pg_name (i := 7) sc__law_moved.nd rfl (by first | exact Or.inl rfl | exact Or.inr rfl)) pgs_nil)))))
        (pss_cons (ps_if (pt_cmpR op_eq (pv 0) pe_str (nomark _)) pss_never (pss_one (ps_if (pt_cmpR op_eq (pv 0) pe_str (nomark _)) (pss_one (ps_asg (pe_cl c__law_name hr (by decide) (by rfl) (pa_cons (pv 1) (pa_cons (pv 5) (pa_cons (pv 4) (pa_cons (pe_ix ix_tup (pv 6) (pv 4) (fun _ _ => rfl)) pa_nil))))) (pg_tup rfl (pgs_cons (pg_name (i := 8) sc__law_moved.nd rfl (by first | exact Or.inl rfl | exact Or.inr rfl)) (pgs_cons (pg_name (i := 9) sc__law_moved.nd rfl (by first | exact Or.inl rfl | exact Or.inr rfl)) (pgs_cons (pg_name (i := 10) sc__law_moved.nd rfl (by first | exact Or.inl rfl | exact Or.inr rfl)) pgs_nil)))))) pss_never)))
        (C8.pss_cut (ps_if (pt_cmpR (op_eqD hr.units) (pe_cl c__law_next hr (by decide) (by rfl) (pa_cons (pv 0) (pa_cons (pe_ix ix_tup (pv 6) (pv 4) (fun _ _ => rfl)) pa_nil))) (pe_tup (pa_cons pe_str pa_nil)) (nomark _)) (pss_one (ps_set (i := 5) sc__law_moved.nd rfl (by first | exact Or.inl rfl | exact Or.inr rfl) (pe_op op_catB (pe_op op_catB (pe_slice sl_tupB (pv 5) po_none (po_some (pv 4))) (pe_tup (pa_cons (pv 8) pa_nil))) (pe_slice sl_tupB (pv 5) (po_some (pe_op op_add (pv 4) pe_int)) po_none)))) pss_nil)
        (C8.pss_cut (ps_if (pt_cmpR op_notN (pv 10) pe_non (nomark _)) (pss_one (ps_set (i := 7) sc__law_moved.nd rfl (by first | exact Or.inl rfl | exact Or.inr rfl) (pe_op op_catB (pe_op op_catB (pe_slice sl_tupB (pv 7) po_none (po_some (pv 4))) (pe_tup (pa_cons (pe_op op_catB (pe_ix ix_tup (pv 7) (pv 4) (fun _ _ => rfl)) (pe_tup (pa_cons (pv 10) pa_nil))) pa_nil))) (pe_slice sl_tupB (pv 7) (po_some (pe_op op_add (pv 4) pe_int)) po_none)))) pss_nil)
        (pss_one (ps_ret (pe_tup (pa_cons (pv 5) (pa_cons (pe_op op_catB (pe_op op_catB (pe_slice sl_tupB (pv 6) po_none (po_some (pv 4))) (pe_tup (pa_cons (pv 9) pa_nil))) (pe_slice sl_tupB (pv 6) (po_some (pe_op op_add (pv 4) pe_int)) po_none)) (pa_cons (pv 7) pa_nil)))))))))), ?_⟩
    obtain ⟨a, c, s, t, cvs, svs, tvs, rfl, ha, hc, rc, hs, rs, ht, rt⟩ := rpS hv
    cases est : S.states.getD h0 none with
    | none => exact absurd est hst
    | some st =>
      obtain ⟨w', b⟩ := st
      have hhs := lt_of_state est
      have hh : h0 < rows.length := by rw [← ok.ls]; exact hhs
      have lc := rc.len'
      have ls := rs.len'
      have lt := rt.len'
      have kc := ok.lc
      have ks := ok.ls
      have kt := ok.lt
      obtain ⟨vst, hvst, rst⟩ := rs.getD hhs none
      rw [est] at rst
      refine ⟨_, rfl, a, _, rfl, sqT ha, rfl, _, _, rfl, _, _, rfl, _, _, rfl, rfl, ?_⟩
      refine ⟨_, rfl, rfl, _, rfl, ?_⟩
      rw [not_levels]
      refine iteF ⟨_, rfl, rfl, _, rfl, ?_⟩
      rw [is_names]
      refine iteT ⟨_, rfl, _, rfl, _, rfl, _, rfl, _, rfl, s, _, _, _, rfl, rfl, sqT hs, atI_nat hvst, r, rows, c, cvs, S.cells, h0, vst, w', b, rfl, er, hc, rc, kc, h5, hh, rst, fun e => ok.s1 h0 w' (by rw [est, e]), fun H1 x1 s1 r1 => ?_⟩
      obtain ⟨x1', v1, v2, v3, e1, hx, q1, q2, q3⟩ := rp3 r1
      cases e1
      refine ⟨x1, _, rfl, sqT hx, rfl, _, _, rfl, _, _, rfl, _, _, rfl, rfl, ?_⟩
      -- cells
      refine ⟨fun σ H4 => ∃ c4 cvs4, σ = [some (.str "names"), some (.ref r), some (.int 0), some (.ref a), some (vN h0), some (.ref c4), some (.ref s), some (.ref t), some v1, some v2, some v3] ∧ Same H1 H4 ∧ H4 c4 = some (.tup cvs4) ∧
        RpL H4 cvs4 ((if b = false then S.cells.set h0 (aft rows S.cells h0 w' b).1 else S.cells).map dC), ?_, ?_⟩
      · refine ⟨_, rfl, _, rfl, _, rfl, s, _, _, _, rfl, rfl, sqT (s1 _ _ hs), atI_nat hvst, vst, w', b, rfl, rst.same s1, fun H2 x2 s2 r2 => ⟨line (by simp), fun t1 m1 => ?_⟩⟩
        have s3 := same_new (o := .tup [.str "put"]) m1
        refine eq_put (r2.same s3) upd_same ⟨_, rfl, ?_⟩
        have s13 := s2.trans s3
        generalize upd H2 t1 (.tup [.str "put"]) = H3 at s13 ⊢
        have hc3 := s13 _ _ (s1 _ _ hc)
        cases b with
        | true =>
          refine iteNT ⟨c, cvs, rfl, s13, hc3, ?_⟩
          rw [if_neg (by simp)]
          exact (rc.same s1).same s13
        | false =>
          refine iteNF ⟨_, rfl, _, rfl, h0, rfl, c, cvs, rfl, hc3, fun H4 p4 k4 e4 => ⟨_, rfl, line (by simp), fun p5 n5 => ⟨p4, p5, _, _, rfl, rfl, same_new n5 _ _ e4, upd_same, ?_, fun H6 p6 k6 e6 => ?_⟩⟩⟩
          · rw [cut_to, List.length_take]; show _ + 1 ≤ _; omega
          have s36 := (sNew k4 n5).trans k6
          refine ⟨_, rfl, _, rfl, (h0 : Int), 1, rfl, rfl, ((h0 : Int) + 1), rfl, c, cvs, rfl, s36 _ _ hc3, fun H7 p7 k7 e7 => ⟨p6, p7, _, _, rfl, rfl, k7 _ _ e6, e7, ?_, fun H8 p8 k8 e8 => ?_⟩⟩
          · rw [show ((h0 : Int) + 1) = ((h0 + 1 : Nat) : Int) by omega, cut_from, cut_to, List.length_append, List.length_take, List.length_drop]; show (_ + 1) + _ ≤ _; omega
          rw [show ((h0 : Int) + 1) = ((h0 + 1 : Nat) : Int) by omega, cut_from, cut_to, set_cut cvs h0 v1 (by omega)] at e8
          have s18 := ((s13.trans s36).trans k7).trans k8
          refine ⟨p8, _, rfl, s18, e8, ?_⟩
          rw [if_pos rfl]
          exact (rc.same (s1.trans s18)).row (f := dC) (q1.same s18) h0
      · rintro σ H4 ⟨c4, cvs4, rfl, s4, e4, r4⟩
        -- told
        refine ⟨fun σ H5 => ∃ t5 tvs5, σ = [some (.str "names"), some (.ref r), some (.int 0), some (.ref a), some (vN h0), some (.ref c4), some (.ref s), some (.ref t5), some v1, some v2, some v3] ∧ Same H4 H5 ∧ H5 t5 = some (.tup tvs5) ∧
          RpL H5 tvs5 ((match (aft rows S.cells h0 w' b).2.2 with | none => S.told | some i => S.told.set h0 (S.told.getD h0 [] ++ [i])).map dW), ?_, ?_⟩
        · refine ⟨_, rfl, rfl, _, rfl, ?_⟩
          have k04 := s1.trans s4
          cases eo : (aft rows S.cells h0 w' b).2.2 with
          | none =>
            have e3 : v3 = .non := by
              have z := q3
              rw [eo] at z
              exact z.non_inv
            subst e3
            exact iteNS rfl ⟨t, tvs, rfl, Same.refl _, k04 _ _ ht, rt.same k04⟩
          | some i =>
            have e3 : v3 = .int i := by
              have z := q3
              rw [eo] at z
              exact z.int_inv
            subst e3
            obtain ⟨vt, hvt, rvt⟩ := rt.getD (i := h0) (by omega) []
            obtain ⟨tt, rfl, htt⟩ := rpW rvt
            refine iteNN (by simp) ⟨_, rfl, _, rfl, h0, rfl, t, tvs, rfl, k04 _ _ ht, fun H5 p5 k5 e5 => ?_⟩
            refine ⟨_, rfl, _, rfl, t, _, _, _, rfl, rfl, sqT (k5 _ _ (k04 _ _ ht)), atI_nat hvt, _, rfl, line (by simp), fun t6 m6 => ?_⟩
            have k6 := same_new (o := .tup [.int i]) m6
            refine ⟨tt, t6, _, _, rfl, rfl, k6 _ _ (k5 _ _ (k04 _ _ htt)), upd_same, ?_, fun H7 p7 k7 e7 => ?_⟩
            · have : (S.told.getD h0 []).length ≤ 1 := by
                rcases told_form ok h0 hh with ⟨z, _⟩ | ⟨_, z, _⟩ <;> rw [z] <;> simp
              show (List.map V.int (S.told.getD h0 [])).length + 1 ≤ 100000
              rw [List.length_map]; omega
            have k57 := k6.trans k7
            refine ⟨line (by simp), fun p8 n8 => ⟨p5, p8, _, _, rfl, rfl, same_new n8 _ _ (k57 _ _ e5), upd_same, ?_, fun H9 p9 k9 e9 => ?_⟩⟩
            · rw [cut_to, List.length_take]; show _ + 1 ≤ _; omega
            have k79 := (same_new n8).trans k9
            have k49 := (k5.trans k57).trans k79
            refine ⟨_, rfl, _, rfl, (h0 : Int), 1, rfl, rfl, ((h0 : Int) + 1), rfl, t, tvs, rfl, k49 _ _ (k04 _ _ ht), fun H10 p10 k10 e10 => ⟨p9, p10, _, _, rfl, rfl, k10 _ _ e9, e10, ?_, fun H11 p11 k11 e11 => ?_⟩⟩
            · rw [show ((h0 : Int) + 1) = ((h0 + 1 : Nat) : Int) by omega, cut_from, cut_to, List.length_append, List.length_take, List.length_drop]; show (_ + 1) + _ ≤ _; omega
            rw [show ((h0 : Int) + 1) = ((h0 + 1 : Nat) : Int) by omega, cut_from, cut_to, set_cut tvs h0 _ (by omega)] at e11
            have s411 := (k49.trans k10).trans k11
            refine ⟨p11, _, rfl, s411, e11, ?_⟩
            refine (rt.same (k04.trans s411)).row (f := dW) ?_ h0
            refine .mk (((k79.trans k10).trans k11) _ _ e7) ?_
            rw [List.map_append]
            have z := RpL.of_ints (H := H11) (S.told.getD h0 [])
            exact z.snoc (.int i)
        · rintro σ H5 ⟨t5, tvs5, rfl, s5, e5, r5⟩
          rw [aft_moved est] at q
          have k05 := (s1.trans s4).trans s5
          have hs5 := k05 _ _ hs
          refine ⟨_, rfl, _, rfl, _, rfl, h0, rfl, s, svs, rfl, hs5, fun H6 p6 k6 e6 => ⟨_, rfl, line (by simp), fun p7 n7 => ⟨p6, p7, _, _, rfl, rfl, same_new n7 _ _ e6, upd_same, ?_, fun H8 p8 k8 e8 => ?_⟩⟩⟩
          · rw [cut_to, List.length_take]; show _ + 1 ≤ _; omega
          have s58 := (sNew k6 n7).trans k8
          refine ⟨_, rfl, _, rfl, (h0 : Int), 1, rfl, rfl, ((h0 : Int) + 1), rfl, s, svs, rfl, s58 _ _ hs5, fun H9 p9 k9 e9 => ⟨p8, p9, _, _, rfl, rfl, k9 _ _ e8, e9, ?_, fun H10 p10 k10 e10 => ?_⟩⟩
          · rw [show ((h0 : Int) + 1) = ((h0 + 1 : Nat) : Int) by omega, cut_from, cut_to, List.length_append, List.length_take, List.length_drop]; show (_ + 1) + _ ≤ _; omega
          rw [show ((h0 : Int) + 1) = ((h0 + 1 : Nat) : Int) by omega, cut_from, cut_to, set_cut svs h0 v2 (by omega)] at e10
          have s510 := (s58.trans k9).trans k10
          refine ⟨_, rfl, line (by simp), fun z nz => ?_⟩
          have k11 := same_new (o := .tup [.ref c4, .ref p10, .ref t5]) nz
          have s511 := s510.trans k11
          refine q _ z (k05.trans s511) (.mk3 upd_same ?_ ?_ ?_)
          · exact .mk (s511 _ _ (s5 _ _ e4)) (r4.same (s5.trans s511))
          · exact .mk (k11 _ _ e10) ((rs.same (k05.trans s511)).row (f := dT) (q2.same ((s4.trans s5).trans s511)) h0)
          · exact .mk (s511 _ _ e5) (r5.same s511)
end
end Nm


set_option Elab.async false
set_option linter.all false
set_option maxRecDepth 100000
set_option maxHeartbeats 4000000
namespace Nm
open PySem PySem.Spec PyProof.Rows L2
section
variable {X : Cx}
/-- set(x), x a list or a tuple of ints that are all among b -/
def rSetB (K : PySem.W.Frag) (w : World) : List V → Hp → VK → Prop := fun vs H Q => ∃ (l : Addr) (ns b : List Int), vs = [V.ref l] ∧ (SqL K H l (ns.map V.int) ∨ SqT K H l (ns.map V.int)) ∧ ns.length ≤ 1000 ∧ (∀ z ∈ ns, z ∈ b) ∧
  ∀ p c, H p = none → c ≤ b.length → Q (.ref p) (upd H p (SetO w p (fun j => decide (j ∈ ns)) c))
theorem cr_setB (hc : X.calm = true) : CallR X (.type "set") (rSetB X.K X.w) := by
  intro pins s σ H vs us Q I r h
  obtain ⟨l, ns, b, rfl, hq, hn, hb, q⟩ := h
  rw [Vals.ref1 r]
  refine set_any hc I hq hn fun h' tk c R hle hk => ?_
  have hcb : c ≤ b.length := by
    obtain ⟨o, es, ep, t, ho, hex, hd, good, hnd, mem, _, hf, hsz, _⟩ := R
    have z := nd_len (a := es.toList.map keyOf) (b := b) hnd fun z hz => hb z (of_decide_eq_true ((mem z).mpr hz))
    rw [List.length_map, Array.length_toList] at z
    omega
  exact ⟨.ref s.heap.objs.size, _, I.laid (t' := tk) hk (Nat.le_refl _) (setO_new R), rfl, q _ c (I.hok.fresh (Nat.le_refl _)) hcb⟩
end
/-- the hands that came, as the law tells them -/
structure Came (rows : List Int) (W : List Nat) (cm : List Int) : Prop where
  asc : cm.Pairwise (· < ·)
  mem : ∀ k : Int, k ∈ cm ↔ k ∈ W.map fun h : Nat => ((h : Nat) : Int)
theorem Came.inn {rows : List Int} {W : List Nat} {cm : List Int} (c : Came rows W cm) (v : Valid rows W) : ∀ z ∈ cm, 0 ≤ z ∧ z < rows.length := fun z hz => by
  obtain ⟨h, hh, rfl⟩ := List.mem_map.mp ((c.mem z).mp hz)
  have := v.lt h hh
  omega
theorem Came.iff {rows : List Int} {W : List Nat} {cm : List Int} (c : Came rows W cm) (v : Valid rows W) (z : Int) : z ∈ cm ↔ ∃ i : Nat, i < rows.length ∧ z = i ∧ (runW rows W).cells.getD i none ≠ none := by
  rw [c.mem z]
  constructor
  · intro hz
    obtain ⟨h, hh, rfl⟩ := List.mem_map.mp hz
    exact ⟨h, v.lt h hh, rfl, (came_iff W v h).mp hh⟩
  · rintro ⟨i, hi, rfl, hc⟩
    exact List.mem_map.mpr ⟨i, (came_iff W v i).mpr hc, rfl⟩
theorem Came.len {rows : List Int} {W : List Nat} {cm : List Int} (c : Came rows W cm) (v : Valid rows W) : cm.length = many (runW rows W).cells := came_len (runW_ok rows W) c.asc (c.iff v)
theorem Came.told {rows : List Int} {W : List Nat} {cm : List Int} (c : Came rows W cm) (v : Valid rows W) (h5 : rows.length ≤ 5) : ToldOk rows cm (runW rows W).told := by
  have k := runW_ok rows W
  have hl := c.len v
  refine ⟨k.lt, fun ws hw => ?_, fun w hw => ?_, told_nodup k, fun j hj => ?_, c.asc, c.inn v, ?_⟩
  · obtain ⟨i, hi, e⟩ := List.mem_iff_getElem.mp hw
    have e2 : (runW rows W).told.getD i [] = ws := by rw [List.getD_eq_getElem?_getD, List.getElem?_eq_getElem hi, e]; rfl
    rw [← e2]
    rcases told_form k i (by rw [← k.lt]; exact hi) with ⟨z, _⟩ | ⟨_, z, _⟩ <;> rw [z] <;> simp
  · rw [hl]; exact told_bound k w hw
  · have hj' : j < rows.length := by
      by_cases q : j < rows.length
      · exact q
      · exact absurd (gd_out _ _ _ (by rw [k.lt]; omega)) hj
    exact (c.iff v j).mpr ⟨j, hj', rfl, told_came k hj' hj⟩
  · rw [hl]
    refine Nat.le_trans (many_le _) ?_
    rw [k.lc]; exact h5
end Nm


set_option Elab.async false
set_option linter.all false
set_option maxRecDepth 100000
set_option maxHeartbeats 8000000
namespace Nm
open PySem PySem.Spec PyProof.Rows L2
theorem map_vN (W : List Nat) : W.map vN = (W.map fun h : Nat => ((h : Nat) : Int)).map V.int := by rw [List.map_map]; rfl
section
variable {P : Program} {w : World} {K : PySem.W.Frag} {mg : Str → Option Value} {base : Heap}
abbrev s__law_came : Stmt := top 128
abbrev N__law_came : List Str := ["_law_weaving"]
abbrev p__law_came : List Str := ["_law_weaving"]
theorem sc__law_came : FnScope N__law_came p__law_came (defScope s__law_came) := ⟨rfl, rfl, rfl, by decide +kernel, rfl, by decide +kernel, by decide +kernel⟩

def sp_law_came (K : PySem.W.Frag) : Sp := fun vs H Q _ => ∃ (b : Addr) (rows : List Int) (W : List Nat), vs = [.ref b] ∧ Wv H b W ∧ Valid rows W ∧ rows.length ≤ 5 ∧ W.length ≤ 1000 ∧ ∀ H' a cm, Same H H' → H' a = some (.tup (cm.map V.int)) → Came rows W cm → Q (.ref a) H'
theorem wk__law_came (T : Fx K mg) (a_ : At K mg "_law_came" s__law_came p__law_came) : Cl P w K mg base 1 "_law_came" p__law_came (sp_law_came K) := by
  refine a_.cl sc__law_came (fun vs H Q E h => ?_) (fun f_ cdv A outer s_ H vs Q E hr h => ?_)
  · obtain ⟨b, rows, W, rfl, _⟩ := h
    rfl
  · obtain ⟨b, rows, W, rfl, hw, val, h5, h1, q⟩ := h
    refine ⟨_, (pss_one (ps_ret (pe_callTy call_tuple_of (by rfl) T.z_tuple (by decide +kernel) (pa_cons (pe_callB (cr_sortedSet rfl) (by rfl) T.z_sorted (by decide +kernel) (pa_cons (pe_callTy (cr_setB rfl) (by rfl) T.z_set (by decide +kernel) (pa_cons (pv 0) pa_nil)) pa_nil)) pa_nil)))), ?_⟩
    have hw' : SqL K H b ((W.map fun h : Nat => ((h : Nat) : Int)).map V.int) ∨ SqT K H b ((W.map fun h : Nat => ((h : Nat) : Int)).map V.int) := by
      rw [← map_vN]
      exact hw.elim (fun e => .inl (sqL e)) (fun e => .inr (sqT e))
    refine ⟨_, rfl, b, _, [0, 1, 2, 3, 4], rfl, hw', by rw [List.length_map]; exact h1, fun z hz => ?_, fun p c np hc => ?_⟩
    · obtain ⟨h, hh, rfl⟩ := List.mem_map.mp hz
      have := val.lt h hh
      simp only [List.mem_cons, List.not_mem_nil, or_false]
      omega
    refine ⟨p, _, c, rfl, upd_same, by simp at hc; omega, fun ns p2 asc mem len np2 => ⟨p2, _, rfl, .inl ⟨sqL upd_same, fun p3 np3 => ?_⟩⟩⟩
    exact q _ p3 ns (sNew (sNew (same_new np) np2) np3) upd_same ⟨asc, fun k => (mem k).trans ⟨of_decide_eq_true, decide_eq_true⟩⟩
abbrev s__law_all : Stmt := top 131
abbrev N__law_all : List Str := ["_law_told", "_law_found", "_law_items"]
abbrev p__law_all : List Str := ["_law_told"]
theorem sc__law_all : FnScope N__law_all p__law_all (defScope s__law_all) := ⟨rfl, rfl, rfl, by decide +kernel, rfl, by decide +kernel, by decide +kernel⟩

def sp_law_all (K : PySem.W.Frag) : Sp := fun vs H Q _ => ∃ (t : Addr) (tvs : List V) (told : List (List Int)), vs = [.ref t] ∧ H t = some (.tup tvs) ∧ RpL H tvs (told.map dW) ∧ (∀ ws ∈ told, ws.length ≤ 1) ∧ told.length ≤ 5 ∧ ∀ H' l, Same H H' → H' l = some (.lst (told.flatten.map V.int)) → Q (.ref l) H'
theorem wk__law_all (T : Fx K mg) (a_ : At K mg "_law_all" s__law_all p__law_all) : Cl P w K mg base 1 "_law_all" p__law_all (sp_law_all K) := by
  refine a_.cl sc__law_all (fun vs H Q E h => ?_) (fun f_ cdv A outer s_ H vs Q E hr h => ?_)
  · obtain ⟨t, tvs, told, rfl, _⟩ := h
    rfl
  · obtain ⟨t, tvs, told, rfl, ht, rt, one, h5, q⟩ := h
    refine ⟨_, (pss_cons (ps_set (i := 1) sc__law_all.nd rfl (by first | exact Or.inl rfl | exact Or.inr rfl) (pe_lst pa_nil))
        (pss_cons (ps_for PassesOwn.never rfl (pi_tup (pv 0)) (pg_name (i := 2) sc__law_all.nd rfl (by first | exact Or.inl rfl | exact Or.inr rfl)) (pss_one (ps_expr (pe_bm PySem.F.plainAttrs_list PySem.F.slot_list_extend PySem.F.type_list_extend mt_extend (pv 1) (pa_cons (pe_callTy call_list_of (by rfl) T.z_list (by decide +kernel) (pa_cons (pv 2) pa_nil)) pa_nil)))))
        (pss_one (ps_ret (pv 1))))), ?_⟩
    have lt := rt.len'
    refine ⟨line (by simp), fun F nF => ?_⟩
    have s1 := same_new (o := .lst []) nF
    refine ⟨_, rfl, t, rfl, ⟨_, sqT (s1 _ _ ht)⟩, ?_⟩
    refine for_tup (xs := tvs) (fun i σ H3 => ∃ o1, σ = [some (.ref t), some (.ref F), o1] ∧ Same H H3 ∧ H3 F = some (.lst ((told.take i).flatten.map V.int))) ⟨none, rfl, s1, upd_same⟩ (fun i σ H3 hi z => ?_) (fun i x σ H3 hx z => ?_) (fun σ H3 z => ?_)
    · obtain ⟨o1, rfl, sH, e⟩ := z
      exact sqT (sH _ _ ht)
    · obtain ⟨o1, rfl, sH, e⟩ := z
      have hi := lt_of_at hx
      obtain ⟨v, hv, rv⟩ := rt.getD (i := i) (by omega) []
      rw [hx] at hv
      obtain rfl := Option.some.inj hv
      obtain ⟨a, rfl, ha⟩ := rpW rv
      have hg := gd_get told i [] (by omega)
      have hl1 : (told.take i).flatten.length ≤ (told.take i).length := flat_len fun ws hw => one ws (List.mem_of_mem_take hw)
      have hl2 := one _ (gd_mem (l := told) (i := i) [] (by omega))
      rw [List.length_take] at hl1
      refine ⟨_, rfl, .inl ⟨rfl, _, sqL e⟩, _, rfl, a, _, rfl, .inr (sqT (sH _ _ ha)), fun l2 n2 => ?_⟩
      have s2 := same_new (o := .lst ((told.getD i []).map V.int)) n2
      refine ⟨F, l2, _, _, rfl, rfl, s2 _ _ e, upd_same, line (by rw [List.length_map, List.length_map]; omega), _, rfl, sPut (sH.trans s2) nF, ?_⟩
      rw [upd_same, take_snoc hg, List.flatten_append, List.map_append, List.flatten_cons, List.flatten_nil, List.append_nil]
    · obtain ⟨o1, rfl, sH, e⟩ := z
      rw [lt, List.take_length] at e
      exact ⟨_, rfl, q _ F sH e⟩
abbrev s__law_fault : Stmt := top 135
abbrev N__law_fault : List Str := ["_law_kind", "_law_rows", "_law_rounds", "_law_came_here", "_law_told", "_law_items", "_law_one", "_law_item"]
abbrev p__law_fault : List Str := ["_law_kind", "_law_rows", "_law_rounds", "_law_came_here", "_law_told"]
theorem sc__law_fault : FnScope N__law_fault p__law_fault (defScope s__law_fault) := ⟨rfl, rfl, rfl, by decide +kernel, rfl, by decide +kernel, by decide +kernel⟩

def sp_law_fault (K : PySem.W.Frag) : Sp := fun vs H Q _ => ∃ (r : Addr) (rows : List Int) (c : Addr) (cm : List Int) (t : Addr) (tvs : List V) (told : List (List Int)), vs = [.str "names", .ref r, .int 0, .ref c, .ref t] ∧ H r = some (.tup (rows.map V.int)) ∧ H c = some (.tup (cm.map V.int)) ∧ H t = some (.tup tvs) ∧
  RpL H tvs (told.map dW) ∧ ToldOk rows cm told ∧ rows.length ≤ 5 ∧ ∀ H', Same H H' → Q .non H'
theorem wk__law_fault (T : Fx K mg) (a_ : At K mg "_law_fault" s__law_fault p__law_fault) (c__law_all : Cl P w K mg base 1 "_law_all" p__law_all (sp_law_all K)) : Cl P w K mg base 2 "_law_fault" p__law_fault (sp_law_fault K) := by
  refine a_.cl sc__law_fault (fun vs H Q E h => ?_) (fun f_ cdv A outer s_ H vs Q E hr h => ?_)
  · obtain ⟨r, rows, c, cm, t, tvs, told, rfl, _⟩ := h
    rfl
  · obtain ⟨r, rows, c, cm, t, tvs, told, rfl, er, hc, ht, rt, ok, h5, q⟩ := h
    refine ⟨_, (pss_cons (ps_set (i := 5) sc__law_fault.nd rfl (by first | exact Or.inl rfl | exact Or.inr rfl) (pe_cl c__law_all hr (by decide) (by rfl) (pa_cons (pv 4) pa_nil)))
        (pss_cons (ps_if (pt_val (pe_callB (cr_any rfl) (by rfl) T.z_any (by decide +kernel) (pa_cons (pe_lc (own := [("_law_one", 6)]) (g := gName 6) rfl sc__law_fault.nd (pi_range1 (by rfl) T.z_range (pa_cons (pe_callB call_len_seq (by rfl) T.z_len (by decide +kernel) (pa_cons (pv 1) pa_nil)) pa_nil)) (blkOk_by (own := [("_law_one", 6)]) (N := N__law_fault) (sc := defScope s__law_fault) (by decide +kernel)) (fun _ _ _ _ _ => (pg_name (i := 6) sc__law_fault.nd rfl (by first | exact Or.inl rfl | exact Or.inr rfl))) (fun _ _ _ _ _ => pts_nil) (fun _ _ _ _ _ => (pe_and (pe_cmpR op_gt (pe_callB (call_lenK (K := K) rfl) (by rfl) T.z_len (by decide +kernel) (pa_cons (pe_ix (ix_tupK (K := K) rfl) (pv 4) (pv 6) (fun _ _ => rfl)) pa_nil)) pe_int (nomark _)) (pe_one (pe_cmpR (op_notInK (K := K) rfl) (pv 6) (pv 3) (by rfl)))))) pa_nil))) (pss_one (ps_ret pe_str)) pss_nil)
        (pss_cons (ps_if (pt_cmpR op_eq (pv 0) pe_str (nomark _)) pss_never pss_nil)
        (pss_cons (ps_if (pt_cmpR op_eq (pv 0) pe_str (nomark _)) (pss_cons (ps_if (pt_cmpR op_gt (pe_callB call_len_seq (by rfl) T.z_len (by decide +kernel) (pa_cons (pv 5) pa_nil)) (pe_lenSetA (by rfl) T.z_len (by rfl) T.z_set (pv 5)) (nomark _)) (pss_one (ps_ret pe_str)) pss_nil)
        (pss_one (ps_ret (pe_ifExp (pt_val (pe_callB (cr_any rfl) (by rfl) T.z_any (by decide +kernel) (pa_cons (pe_lc (own := [("_law_item", 7)]) (g := gName 7) rfl sc__law_fault.nd (pi_list (pv 5)) (blkOk_by (own := [("_law_item", 7)]) (N := N__law_fault) (sc := defScope s__law_fault) (by decide +kernel)) (fun _ _ _ _ _ => (pg_name (i := 7) sc__law_fault.nd rfl (by first | exact Or.inl rfl | exact Or.inr rfl))) (fun _ _ _ _ _ => pts_nil) (fun _ _ _ _ _ => (pe_cmpR op_gt (pv 7) (pe_op op_sub (pe_op op_mul pe_int (pe_callB (call_lenK (K := K) rfl) (by rfl) T.z_len (by decide +kernel) (pa_cons (pv 3) pa_nil))) pe_int) (nomark _)))) pa_nil))) pe_str pe_non)))) pss_nil)
        pss_never)))), ?_⟩
    have lt := rt.len'
    have ltd := ok.lt
    have fl := flat_len ok.one
    have pe : ((rows.map V.int).length) = rows.length := List.length_map ..
    refine ⟨_, rfl, t, tvs, told, rfl, ht, rt, ok.one, by omega, fun H1 l s1 e1 => ?_⟩
    refine ⟨_, rfl, r, _, rfl, .inr (sqT (s1 _ _ er)), _, rfl, by omega, by omega, fun D1 n1 => lc_sel walk_range (fun i => some (.bl false)) n1 (fun _ _ => trivial) (by omega) (fun i x H2 H3 Kp Kn hi s y kp kn => ?_) (fun H2 s2 e2 => ?_)⟩
    · obtain ⟨rfl, rfl⟩ := y
      have k03 := s1.trans s
      obtain ⟨v, hv, rv⟩ := rt.getD (i := i) (by omega) []
      obtain ⟨a, rfl, ha⟩ := rpW rv
      refine ⟨rfl, yes ⟨_, rfl, _, rfl, t, tvs, _, _, rfl, rfl, sqT (k03 _ _ ht), at_of (Int.zero_add _) hv, a, _, rfl, .inr (sqT (k03 _ _ ha)), _, 0, rfl, rfl, _, rfl, ?_⟩⟩
      rw [List.length_map]
      by_cases e : told.getD i [] = []
      · rw [e, decide_eq_false (show ¬ (0 : Int) < (([] : List Int).length : Nat) by simp)]
        exact iteF (kp _ _ (Same.refl _) rfl)
      · have hpos : 0 < (told.getD i []).length := List.length_pos_iff.mpr e
        rw [decide_eq_true (show (0 : Int) < ((told.getD i []).length : Nat) by omega)]
        refine iteT ⟨_, rfl, _, rfl, c, _, rfl, .inr (sqT (k03 _ _ hc)), rfl, flat_ints _, ?_⟩
        show Kp (.bl (!inV (.int (0 + (i : Int))) (cm.map V.int))) _
        rw [Int.zero_add, inV_ints, decide_eq_true (ok.came i e)]
        exact kp _ _ (Same.refl _) rfl
    rw [sel_bl] at e2
    refine ⟨D1, _, rfl, sqL e2, ?_⟩
    rw [any_sel fun _ _ => rfl]
    refine ⟨false, rfl, iteF ?_⟩
    refine ⟨_, rfl, rfl, _, rfl, ?_⟩
    rw [not_levels]
    refine iteF ⟨_, rfl, rfl, _, rfl, ?_⟩
    rw [is_names]
    have e1' := s2 _ _ e1
    have hc2 := (s1.trans s2) _ _ hc
    refine iteT ⟨_, rfl, l, _, rfl, .inl (sqL e1'), _, rfl, l, _, rfl, .inl (sqL e1'), ok.nd, by omega, _, _, rfl, rfl, _, rfl, ?_⟩
    rw [List.length_map, decide_eq_false (Int.lt_irrefl _)]
    refine iteF ⟨_, rfl, l, rfl, ⟨_, sqL e1'⟩, fun D3 n3 => lc_sel walk_list (fun i => some (.bl false)) n3 (fun H' s => sqL (s _ _ e1')) (by rw [List.length_map]; omega) (fun i x H2 H3 Kp Kn hi s y kp kn => ?_) (fun H3 s3 e3 => ?_)⟩
    · obtain ⟨rfl, hx⟩ := y
      obtain ⟨z, hz, rfl⟩ := map_at hx
      have hw := ok.pos z (List.mem_of_getElem? hz)
      refine ⟨rfl, yes ⟨_, rfl, _, rfl, c, _, rfl, .inr (sqT (s _ _ hc2)), 2, _, rfl, rfl, .inl ⟨by decide, by decide⟩, _, 1, rfl, rfl, z, _, rfl, rfl, ?_⟩⟩
      rw [show ((fun i j : Int => V.bl (decide (j < i))) z (2 * (((cm.map V.int).length : Nat) : Int) - 1)) = V.bl false from congrArg V.bl (decide_eq_false (by rw [List.length_map]; omega))]
      exact kp _ _ (Same.refl _) rfl
    rw [sel_bl] at e3
    refine ⟨D3, _, rfl, sqL e3, ?_⟩
    rw [any_sel fun _ _ => rfl]
    exact ⟨false, rfl, iteF (q _ ((s1.trans s2).trans s3))⟩
end
end Nm


set_option Elab.async false
set_option linter.all false
set_option maxRecDepth 100000
set_option maxHeartbeats 8000000
namespace Nm
open PySem PySem.Spec PyProof.Rows L2
section
variable {P : Program} {w : World} {K : PySem.W.Frag} {mg : Str → Option Value} {base : Heap}
abbrev s__law_whole : Stmt := top 127
abbrev N__law_whole : List Str := ["_law_kind", "_law_rows", "_law_rounds", "_law_weaving", "_law_standing", "_law_found", "_law_turn", "_law_left_here"]
abbrev p__law_whole : List Str := ["_law_kind", "_law_rows", "_law_rounds", "_law_weaving", "_law_standing"]
theorem sc__law_whole : FnScope N__law_whole p__law_whole (defScope s__law_whole) := ⟨rfl, rfl, rfl, by decide +kernel, rfl, by decide +kernel, by decide +kernel⟩

def sp_law_whole (K : PySem.W.Frag) : Sp := fun vs H Q _ => ∃ (r : Addr) (rows : List Int) (b : Addr) (W : List Nat) (v : V), vs = [.str "names", .ref r, .int 0, .ref b, v] ∧ H r = some (.tup (rows.map V.int)) ∧ H b = some (.lst (W.map vN)) ∧ Valid rows W ∧ W.length ≤ 900 ∧ rows.length ≤ 5 ∧ Rp H v (dS (runW rows W)) ∧
  ∀ H' a b' v', Same H H' → H' a = some (.tup [.ref b', v']) → H' b' = some (.tup ((outN rows 2000 (W, runW rows W)).1.map vN)) → Rp H' v' (dS (outN rows 2000 (W, runW rows W)).2) → Q (.ref a) H'
theorem wk__law_whole (T : Fx K mg) (a_ : At K mg "_law_whole" s__law_whole p__law_whole) (c__law_left : Cl P w K mg base 1 "_law_left" p__law_left (sp_law_left K)) (c__law_moved : Cl P w K mg base 2 "_law_moved" p__law_moved (sp_law_moved K)) : Cl P w K mg base 3 "_law_whole" p__law_whole (sp_law_whole K) := by
  refine a_.cl sc__law_whole (fun vs H Q E h => ?_) (fun f_ cdv A outer s_ H vs Q E hr h => ?_)
  · obtain ⟨r, rows, b, W, v, rfl, _⟩ := h
    rfl
  · obtain ⟨r, rows, b, W, v, rfl, er, hb, val, h9, h5, rv, q⟩ := h
    refine ⟨_, (pss_cons (ps_set (i := 5) sc__law_whole.nd rfl (by first | exact Or.inl rfl | exact Or.inr rfl) (pe_callTy call_list_of (by rfl) T.z_list (by decide +kernel) (pa_cons (pv 3) pa_nil)))
        (pss_cons (ps_for PassesOwn.never rfl (pi_range1 (by rfl) T.z_range (pa_cons pe_int pa_nil)) (pg_name (i := 6) sc__law_whole.nd rfl (by first | exact Or.inl rfl | exact Or.inr rfl)) (pss_cons (ps_set (i := 7) sc__law_whole.nd rfl (by first | exact Or.inl rfl | exact Or.inr rfl) (pe_cl c__law_left hr (by decide) (by rfl) (pa_cons (pv 4) pa_nil)))
        (pss_one (ps_if (pt_cmpR op_gt (pe_callB call_len_seq (by rfl) T.z_len (by decide +kernel) (pa_cons (pv 7) pa_nil)) pe_int (nomark _)) (pss_cons (ps_expr (pe_bm PySem.F.plainAttrs_list PySem.F.slot_list_append PySem.F.type_list_append mt_append (pv 5) (pa_cons (pe_ix ix_tup (pv 7) pe_int (fun _ _ => rfl)) pa_nil)))
        (pss_one (ps_set (i := 4) sc__law_whole.nd rfl (by first | exact Or.inl rfl | exact Or.inr rfl) (pe_cl c__law_moved hr (by decide) (by rfl) (pa_cons (pv 0) (pa_cons (pv 1) (pa_cons (pv 2) (pa_cons (pv 4) (pa_cons (pe_ix ix_tup (pv 7) pe_int (fun _ _ => rfl)) pa_nil))))))))) pss_nil))))
        (pss_one (ps_ret (pe_tup (pa_cons (pe_callTy call_tuple_of (by rfl) T.z_tuple (by decide +kernel) (pa_cons (pv 5) pa_nil)) (pa_cons (pv 4) pa_nil))))))), ?_⟩
    have st5 : ∀ S, Ok rows S → S.states.length ≤ 5 := fun S k => by rw [k.ls]; exact h5
    refine ⟨_, rfl, b, W.map vN, rfl, .inl (sqL hb), fun F nF => ?_⟩
    have s1 := same_new (o := .lst (W.map vN)) nF
    refine ⟨_, rfl, by omega, by omega, ?_⟩
    refine for_it walk_range (fun i σ H3 => ∃ v3 o6 o7, σ = [some (.str "names"), some (.ref r), some (.int 0), some (.ref b), some v3, some (.ref F), o6, o7] ∧ Same H H3 ∧ Rp H3 v3 (dS (outN rows i (W, runW rows W)).2) ∧ H3 F = some (.lst ((outN rows i (W, runW rows W)).1.map vN)))
      ⟨v, none, none, rfl, s1, rv.same s1, upd_same⟩ (fun _ _ _ _ _ => trivial) (fun i x σ H3 H4 hi z y => ?_) (fun σ H3 z => ?_)
    · obtain ⟨v3, o6, o7, rfl, s3, r3, e3⟩ := z
      obtain ⟨rfl, rfl⟩ := y
      obtain ⟨i1, i2, i3, i4⟩ := out_inv val i
      have kS : Ok rows (outN rows i (W, runW rows W)).2 := by rw [i1]; exact runW_ok _ _
      refine ⟨_, rfl, v3, _, rfl, r3, st5 _ kS, fun H4 l4 s4 eL => ?_⟩
      have s34 := s3.trans s4
      have e4 := s4 _ _ e3
      have r4 := r3.same s4
      refine ⟨_, rfl, l4, _, rfl, .inr (sqT eL), _, 0, rfl, rfl, _, rfl, ?_⟩
      rw [List.length_map]
      cases el : left (outN rows i (W, runW rows W)).2 with
      | nil =>
        rw [decide_eq_false (by simp)]
        have es : outN rows (i + 1) (W, runW rows W) = outN rows i (W, runW rows W) := outStep_nil (rows := rows) el
        refine iteF ⟨v3, _, _, rfl, s34, ?_, ?_⟩
        · rw [es]; exact r4
        · rw [es]; exact e4
      | cons h0 rr =>
        have hm : h0 ∈ left (outN rows i (W, runW rows W)).2 := by rw [el]; exact List.mem_cons_self
        have es : outN rows (i + 1) (W, runW rows W) = ((outN rows i (W, runW rows W)).1 ++ [h0], moved rows (outN rows i (W, runW rows W)).2 h0) := outStep_cons (rows := rows) (p := outN rows i (W, runW rows W)) el
        rw [decide_eq_true (by simp)]
        have eL0 : H4 l4 = some (.tup (vN h0 :: rr.map vN)) := by rw [eL, el]; rfl
        refine iteT ⟨_, rfl, .inl ⟨rfl, _, sqL e4⟩, _, rfl, l4, _, 0, _, rfl, rfl, sqT eL0, atI_nat (j := 0) rfl, F, _, vN h0, rfl, rfl, e4, line' (by rw [List.length_map]; omega), ?_⟩
        have kt : ∀ b xs, H4 b = some (.tup xs) → upd H4 F (.lst ((outN rows i (W, runW rows W)).1.map vN ++ [vN h0])) b = some (.tup xs) := fun b xs e => by
          rw [upd_ne (ne_of e e4 (by intro z; cases z))]; exact e
        have e5 : (upd H4 F (.lst ((outN rows i (W, runW rows W)).1.map vN ++ [vN h0]))) F = some (.lst ((outN rows i (W, runW rows W)).1.map vN ++ [vN h0])) := upd_same
        have s5 : Same H (upd H4 F (.lst ((outN rows i (W, runW rows W)).1.map vN ++ [vN h0]))) := sPut s34 nF
        have r5 := r4.keep kt
        have eL5 := kt _ _ eL0
        generalize upd H4 F (.lst ((outN rows i (W, runW rows W)).1.map vN ++ [vN h0])) = H5 at e5 s5 r5 eL5 ⊢
        refine ⟨_, rfl, _, rfl, _, rfl, _, rfl, _, rfl, l4, _, 0, _, rfl, rfl, sqT eL5, atI_nat (j := 0) rfl, r, rows, v3, _, h0, rfl, s5 _ _ er, r5, kS, h5, mem_left.mp hm, fun H6 a6 s6 r6 => ⟨.ref a6, _, _, rfl, s5.trans s6, ?_, ?_⟩⟩
        · rw [es]; exact r6
        · rw [es]; dsimp only; rw [List.map_append]; exact s6 _ _ e5
    · obtain ⟨v3, o6, o7, rfl, s3, r3, e3⟩ := z
      refine ⟨_, rfl, F, _, rfl, .inl ⟨sqL e3, fun t nt => ⟨_, rfl, line (by simp), fun a na => ?_⟩⟩⟩
      have k1 := same_new (o := .tup ((outN rows 2000 (W, runW rows W)).1.map vN)) nt
      have k2 := same_new (o := .tup [.ref t, v3]) na
      exact q _ a t v3 ((s3.trans k1).trans k2) upd_same (k2 _ _ upd_same) (r3.same (k1.trans k2))
end
end Nm


set_option Elab.async false
set_option linter.all false
set_option maxRecDepth 100000
set_option maxHeartbeats 8000000
namespace Nm
open PySem PySem.Spec PyProof.Rows L2
/-- what stands of a weaving -/
structure Wov (rows : List Int) (H : Hp) (p c F G : Addr) (W : List Nat) (svs : List V) : Prop where
  f : H F = some (.lst (W.map vN))
  g : H G = some (.lst svs)
  r : RpL H svs ((stood rows W).map dS)
  v : Valid rows W
  fp : F ≠ p
  gp : G ≠ p
  fc : F ≠ c
  gc : G ≠ c
  fg : F ≠ G
theorem Wov.keep {rows : List Int} {H H' : Hp} {p c F G : Addr} {W : List Nat} {svs : List V} (x : Wov rows H p c F G W svs) (h : Hand H p c) (k : Keep p H H') : Wov rows H' p c F G W svs :=
  { x with f := k _ _ x.fp x.f, g := k _ _ x.gp x.g, r := x.r.keepH h k }
theorem Wov.same {rows : List Int} {H H' : Hp} {p c F G : Addr} {W : List Nat} {svs : List V} (x : Wov rows H p c F G W svs) (k : Same H H') : Wov rows H' p c F G W svs :=
  { x with f := k _ _ x.f, g := k _ _ x.g, r := x.r.same k }
theorem Wov.last {rows : List Int} {H : Hp} {p c F G : Addr} {W : List Nat} {svs : List V} (x : Wov rows H p c F G W svs) : ∃ v, atI svs (-1) = some v ∧ Rp H v (dS (runW rows W)) := by
  have ll := x.r.len'
  rw [stood_len] at ll
  obtain ⟨v, hv, rv⟩ := x.r.get (i := W.length) (d := dS (runW rows W)) (by rw [List.getElem?_map, stood_at (Nat.le_refl _), List.take_length]; rfl)
  exact ⟨v, at_last (by rw [ll]; exact hv), rv⟩
theorem Wov.step {rows : List Int} {H H2 : Hp} {p c F G a : Addr} {W : List Nat} {svs : List V} {k : Nat} (x : Wov rows H p c F G W svs) (hk : k < rows.length) (hs : (runW rows W).states.getD k none ≠ none)
    (s2 : Same (upd H F (.lst (W.map vN ++ [vN k]))) H2) (r2 : Rp H2 (.ref a) (dS (moved rows (runW rows W) k))) : Wov rows (upd H2 G (.lst (svs ++ [.ref a]))) p c F G (W ++ [k]) (svs ++ [.ref a]) := by
  have g1 : (upd H F (.lst (W.map vN ++ [vN k]))) G = some (.lst svs) := by rw [upd_ne x.fg.symm]; exact x.g
  have g2 := s2 _ _ g1
  have kt1 : ∀ b xs, H b = some (.tup xs) → upd H F (.lst (W.map vN ++ [vN k])) b = some (.tup xs) := fun b xs e => by
    rw [upd_ne (ne_of e x.f (by intro z; cases z))]; exact e
  have kt2 : ∀ b xs, H2 b = some (.tup xs) → upd H2 G (.lst (svs ++ [.ref a])) b = some (.tup xs) := fun b xs e => by
    rw [upd_ne (ne_of e g2 (by intro z; cases z))]; exact e
  refine { x with f := ?_, g := upd_same, r := ?_, v := valid_snoc x.v hk hs }
  · rw [upd_ne x.fg, List.map_append]; exact s2 _ _ upd_same
  · rw [stood_snoc, List.map_append]
    exact (((x.r.keep kt1).same s2).keep kt2).snoc (r2.keep kt2)
theorem inV_nats (k : Nat) (l : List Nat) : inV (vN k) (l.map vN) = decide (k ∈ l) := by
  rw [map_vN, inV_ints]
  refine decide_eq_decide.mpr ⟨fun h => ?_, fun h => List.mem_map.mpr ⟨k, h, rfl⟩⟩
  obtain ⟨j, hj, e⟩ := List.mem_map.mp h
  have : j = k := by omega
  exact this ▸ hj
theorem flat_nats (l : List Nat) : (l.map vN).all flatV = true := by rw [map_vN]; exact flat_ints _
/-- some of a list -/
def sub (l : List Nat) (p : Nat → Bool) : List Nat := sel l.length fun j => l[j]?.bind fun z => if p z = true then some z else none
theorem sub_mem {l : List Nat} {p : Nat → Bool} {z : Nat} (h : z ∈ sub l p) : z ∈ l := by
  obtain ⟨i, hi, e⟩ := mem_sel.mp h
  cases e2 : l[i]? with
  | none => rw [e2] at e; cases e
  | some y =>
    rw [e2] at e
    have e : (if p y = true then some y else none) = some z := e
    split at e
    · rw [← Option.some.inj e]; exact List.mem_of_getElem? e2
    · cases e
theorem sub_len (l : List Nat) (p : Nat → Bool) : (sub l p).length ≤ l.length := sel_len _ _
theorem sub_map (l : List Nat) (p : Nat → Bool) : (sel l.length fun j => l[j]?.bind fun z => if p z = true then some (vN z) else none) = (sub l p).map vN := by
  unfold sub
  rw [sel_map]
  refine sel_congr fun i hi => ?_
  rw [List.getElem?_eq_getElem hi]
  show (if p l[i] = true then some (vN l[i]) else none) = Option.map vN (if p l[i] = true then some l[i] else none)
  split <;> rfl
section
variable {P : Program} {w : World} {K : PySem.W.Frag} {mg : Str → Option Value} {base : Heap}
abbrev s__law_woven : Stmt := top 126
abbrev N__law_woven : List Str := ["_law_hand_here", "_law_kind", "_law_rows", "_law_rounds", "_law_most", "_law_found", "_law_stood", "_law_way", "_law_stops", "_law_one", "_law_turn", "_law_left_here", "_law_behind", "_law_other"]
abbrev p__law_woven : List Str := ["_law_hand_here", "_law_kind", "_law_rows", "_law_rounds", "_law_most"]
theorem sc__law_woven : FnScope N__law_woven p__law_woven (defScope s__law_woven) := ⟨rfl, rfl, rfl, by decide +kernel, rfl, by decide +kernel, by decide +kernel⟩

def sp_law_woven (K : PySem.W.Frag) : Sp := fun vs H Q _ => ∃ (p c r : Addr) (rows : List Int) (m : Nat), vs = [.ref p, .str "names", .ref r, .int 0, vN m] ∧ Hand H p c ∧ H r = some (.tup (rows.map V.int)) ∧ 1 ≤ rows.length ∧ rows.length ≤ 5 ∧ m ≤ 50 ∧
  ∀ H' a F G W svs, H' a = some (.tup [.ref F, .ref G]) → Wov rows H' p c F G W svs → W.length ≤ 50 → Keep p H H' → Hand H' p c → Q (.ref a) H'
theorem wk__law_woven (T : Fx K mg) (a_ : At K mg "_law_woven" s__law_woven p__law_woven) (c__law_begin : Cl P w K mg base 1 "_law_begin" p__law_begin (sp_law_begin K)) (c__law_draw : Cl P w K mg base 1 "_law_draw" p__law_draw (sp_law_draw K)) (c__law_left : Cl P w K mg base 1 "_law_left" p__law_left (sp_law_left K)) (c__law_some : Cl P w K mg base 2 "_law_some" p__law_some (sp_law_some K)) (c__law_moved : Cl P w K mg base 2 "_law_moved" p__law_moved (sp_law_moved K)) : Cl P w K mg base 3 "_law_woven" p__law_woven (sp_law_woven K) := by
  refine a_.cl sc__law_woven (fun vs H Q E h => ?_) (fun f_ cdv A outer s_ H vs Q E hr h => ?_)
  · obtain ⟨p, c, r, rows, m, rfl, _⟩ := h
    rfl
  · obtain ⟨p, c, r, rows, m, rfl, hh, er, h1, h5, hm, q⟩ := h
    refine ⟨_, (pss_cons (ps_asg (pe_tup (pa_cons (pe_lst pa_nil) (pa_cons (pe_lst (pa_cons (pe_cl c__law_begin hr (by decide) (by rfl) (pa_cons (pv 1) (pa_cons (pv 2) pa_nil))) pa_nil)) (pa_cons (pe_cl c__law_draw hr (by decide) (by rfl) (pa_cons (pv 0) (pa_cons pe_int pa_nil))) pa_nil)))) (pg_tup rfl (pgs_cons (pg_name (i := 5) sc__law_woven.nd rfl (by first | exact Or.inl rfl | exact Or.inr rfl)) (pgs_cons (pg_name (i := 6) sc__law_woven.nd rfl (by first | exact Or.inl rfl | exact Or.inr rfl)) (pgs_cons (pg_name (i := 7) sc__law_woven.nd rfl (by first | exact Or.inl rfl | exact Or.inr rfl)) pgs_nil)))))
        (pss_cons (ps_asg (pe_tup (pa_cons (pe_lc (own := [("_law_other", 13)]) (g := gName 13) rfl sc__law_woven.nd (pi_range1 (by rfl) T.z_range (pa_cons (pe_callB call_len_seq (by rfl) T.z_len (by decide +kernel) (pa_cons (pv 2) pa_nil)) pa_nil)) (blkOk_by (own := [("_law_other", 13)]) (N := N__law_woven) (sc := defScope s__law_woven) (by decide +kernel)) (fun _ _ _ _ _ => (pg_name (i := 13) sc__law_woven.nd rfl (by first | exact Or.inl rfl | exact Or.inr rfl))) (fun _ _ _ _ _ => pts_one (PW.pt (pw_and (pt_cmpR op_gt (pv 7) pe_int (nomark _)) (pw_and1 (pt_cmpR op_eq (pe_cl c__law_draw hr (by decide) (by rfl) (pa_cons (pv 0) (pa_cons pe_int pa_nil))) pe_int (nomark _)))))) (fun _ _ _ _ _ => (pv 13))) (pa_cons pe_int pa_nil))) (pg_tup rfl (pgs_cons (pg_name (i := 8) sc__law_woven.nd rfl (by first | exact Or.inl rfl | exact Or.inr rfl)) (pgs_cons (pg_name (i := 9) sc__law_woven.nd rfl (by first | exact Or.inl rfl | exact Or.inr rfl)) pgs_nil))))
        (pss_cons (ps_for PassesOwn.never rfl (pi_range1 (by rfl) T.z_range (pa_cons (pv 4) pa_nil)) (pg_name (i := 10) sc__law_woven.nd rfl (by first | exact Or.inl rfl | exact Or.inr rfl)) (pss_cons (ps_setLc (i := 11) (own := [("_law_other", 13)]) (g := gName 13) rfl sc__law_woven.nd rfl rfl (sw_true rfl rfl rfl (by decide +kernel)) (pi_tup (pe_cl c__law_left hr (by decide) (by rfl) (pa_cons (pe_ix ix_list (pv 6) (pe_un un_neg pe_int) (fun _ _ => rfl)) pa_nil))) (blkOk_by (own := [("_law_other", 13)]) (N := N__law_woven) (sc := defScope s__law_woven) (by decide +kernel)) (fun _ _ _ _ _ => (pg_name (i := 13) sc__law_woven.nd rfl (by first | exact Or.inl rfl | exact Or.inr rfl))) (fun _ _ _ _ _ => pts_one (PW.pt (pw_or (pt_cmpR (op_notInK (K := K) rfl) (pv 13) (pv 8) (by rfl)) (pw_or1 (pt_cmpR op_lt (pv 10) pe_int (nomark _)))))) (fun _ _ _ _ _ => (pv 13)))
        (pss_one (ps_if (pt_cmpR op_gt (pe_callB call_len_seq (by rfl) T.z_len (by decide +kernel) (pa_cons (pv 11) pa_nil)) pe_int (nomark _)) (pss_cons (ps_setLc (i := 12) (own := [("_law_other", 13)]) (g := gName 13) rfl sc__law_woven.nd rfl rfl (sw_true rfl rfl rfl (by decide +kernel)) (pi_list (pv 11)) (blkOk_by (own := [("_law_other", 13)]) (N := N__law_woven) (sc := defScope s__law_woven) (by decide +kernel)) (fun _ _ _ _ _ => (pg_name (i := 13) sc__law_woven.nd rfl (by first | exact Or.inl rfl | exact Or.inr rfl))) (fun _ _ _ _ _ => pts_one (pt_cmpR op_gt (pv 13) (pv 9) (nomark _))) (fun _ _ _ _ _ => (pv 13)))
        (C8.pss_cut (ps_if (pt_cmpR op_eq (pv 7) pe_int (nomark _)) (pss_one (ps_set (i := 9) sc__law_woven.nd rfl (by first | exact Or.inl rfl | exact Or.inr rfl) (pe_ifExp (pt_cmpR op_gt (pe_callB call_len_seq (by rfl) T.z_len (by decide +kernel) (pa_cons (pv 12) pa_nil)) pe_int (nomark _)) (pe_ix ix_list (pv 12) pe_int (fun _ _ => rfl)) (pe_ix ix_list (pv 11) pe_int (fun _ _ => rfl))))) (pss_one (ps_if (PW.pt (pw_or (pt_cmpR op_eq (pv 7) pe_int (nomark _)) (pw_or (pt_cmpR op_notIn_seq (pv 9) (pv 11) (by rfl)) (pw_or1 (pt_cmpR op_eq (pe_cl c__law_draw hr (by decide) (by rfl) (pa_cons (pv 0) (pa_cons pe_int pa_nil))) pe_int (nomark _)))))) (pss_one (ps_set (i := 9) sc__law_woven.nd rfl (by first | exact Or.inl rfl | exact Or.inr rfl) (pe_cl c__law_some hr (by decide) (by rfl) (pa_cons (pv 0) (pa_cons (pv 11) pa_nil))))) pss_nil)))
        (pss_cons (ps_expr (pe_bm PySem.F.plainAttrs_list PySem.F.slot_list_append PySem.F.type_list_append mt_append (pv 5) (pa_cons (pv 9) pa_nil)))
        (pss_one (ps_expr (pe_bm PySem.F.plainAttrs_list PySem.F.slot_list_append PySem.F.type_list_append mt_append (pv 6) (pa_cons (pe_cl c__law_moved hr (by decide) (by rfl) (pa_cons (pv 1) (pa_cons (pv 2) (pa_cons (pv 3) (pa_cons (pe_ix ix_list (pv 6) (pe_un un_neg pe_int) (fun _ _ => rfl)) (pa_cons (pv 9) pa_nil)))))) pa_nil))))))) pss_nil))))
        (pss_one (ps_ret (pe_tup (pa_cons (pv 5) (pa_cons (pv 6) pa_nil)))))))), ?_⟩
    have st5 : ∀ S, Ok rows S → S.states.length ≤ 5 := fun S k => by rw [k.ls]; exact h5
    have rp : ∀ {H' : Hp}, Keep p H H' → H' r = some (.tup (rows.map V.int)) := fun k => tupH er hh k
    -- found, stood, way
    refine ⟨line (by simp), fun F nF => ⟨_, rfl, _, rfl, r, rows, rfl, same_new nF _ _ er, h1, h5, fun H1 a1 s1 r1 => ⟨line (by simp), fun G nG => ⟨_, rfl, p, c, _, rfl, (hh.new nF).same (sNew s1 nG), by omega, by omega, fun way H2 hd k2 h2 => ⟨line (by simp), fun t0 n0 => ⟨t0, _, rfl, sqT upd_same, rfl, _, _, rfl, _, _, rfl, _, _, rfl, rfl, ?_⟩⟩⟩⟩⟩⟩
    have sF := same_new (o := .lst []) nF
    have sG := same_new (o := .lst [.ref a1]) nG
    have hF1 := s1 _ _ (upd_same (H := H) (a := F) (o := .lst []))
    have nFG : F ≠ G := ne_of_none hF1 nG
    have nG0 : H G = none := (sF.trans s1).free nG
    have s02 := (sF.trans s1).trans sG
    have hFp := hh.ne nF
    have hGp := hh.ne nG0
    have w2 : Wov rows H2 p c F G [] [.ref a1] := by
      refine Wov.keep (H := upd H1 G (.lst [.ref a1])) ⟨sG _ _ hF1, upd_same, ?_, valid_nil rows, hFp.1, hGp.1, hFp.2, hGp.2, nFG⟩ (hh.same s02) k2
      exact .cons (r1.same sG) .nil
    have k02 : Keep p H H2 := (Keep.of s02).trans k2
    have s3 := same_new (o := .tup [.ref F, .ref G, vN way]) n0
    have w3 := w2.same s3
    have k03 := k02.trans (Keep.of s3)
    have h3 := h2.same s3
    generalize upd H2 t0 (.tup [.ref F, .ref G, vN way]) = H3 at w3 k03 h3 ⊢
    -- stops, one
    have lr : (rows.map V.int).length = rows.length := List.length_map ..
    refine ⟨_, rfl, r, _, rfl, .inr (sqT (rp k03)), _, rfl, by omega, by omega, fun D n1 => ?_⟩
    have hDp := h3.ne n1
    refine lc_it walk_range (fun i H4 => Keep p H3 H4 ∧ Hand H4 p c ∧ ∃ ns : List Int, ns.length ≤ i ∧ H4 D = some (.lst (ns.map V.int))) ⟨(Keep.refl _ _).put n1, h3.new n1, [], by simp, upd_same⟩ (fun _ _ _ _ => trivial) (fun i x H4 H5 hi z y => ?_) (fun H4 z => ?_)
    · obtain ⟨k4, h4, ns, ln, e4⟩ := z
      obtain ⟨rfl, rfl⟩ := y
      have e4l : ∀ {H' : Hp}, Keep p H5 H' → Hand H' p c → ∃ acc : List V, H' D = some (.lst acc) ∧ acc.length < sizeLine ∧ (Keep p H3 (upd H' D (.lst (acc ++ [.int (0 + (i : Int))]))) ∧ Hand (upd H' D (.lst (acc ++ [.int (0 + (i : Int))]))) p c ∧ ∃ ns : List Int, ns.length ≤ i + 1 ∧ upd H' D (.lst (acc ++ [.int (0 + (i : Int))])) D = some (.lst (ns.map V.int))) := fun {H'} k h =>
        ⟨_, k _ _ hDp.1 e4, line' (by rw [List.length_map]; omega), (k4.trans k).put n1, h3.putN n1 h, ns ++ [0 + (i : Int)], by rw [List.length_append]; simp; omega, by rw [upd_same, List.map_append]; rfl⟩
      refine ⟨rfl, _, rfl, way, 1, rfl, rfl, _, rfl, ite2 (fun _ => ?_) (fun _ => ?_)⟩
      · refine ⟨_, rfl, p, c, _, rfl, h4, by omega, by omega, fun d H6 hd6 k6 h6 => ⟨rfl, _, rfl, ite2 (fun _ => ?_) (fun _ => ?_)⟩⟩
        · exact ⟨_, rfl, e4l k6 h6⟩
        · exact ⟨k4.trans k6, h6, ns, by omega, k6 _ _ hDp.1 e4⟩
      · exact ⟨k4, h4, ns, by omega, e4⟩
    obtain ⟨k4, h4, ns, ln, e4⟩ := z
    refine ⟨line (by simp), fun t1 n4 => ⟨t1, _, rfl, sqT upd_same, rfl, _, _, rfl, _, _, rfl, rfl, ?_⟩⟩
    have s5 := same_new (o := .tup [.ref D, .int 0]) n4
    have w5 := (w3.keep h3 k4).same s5
    have h5' := h4.same s5
    have k05 := (k03.trans k4).trans (Keep.of s5)
    have e5 := s5 _ _ e4
    have nFD : F ≠ D := ne_of_none w3.f n1
    have nGD : G ≠ D := ne_of_none w3.g n1
    generalize upd H4 t1 (.tup [.ref D, .int 0]) = H5 at w5 h5' k05 e5 ⊢
    refine ⟨_, rfl, _, rfl, by omega, by omega, ?_⟩
    rw [show ((m : Nat) : Int).toNat = m by omega]
    refine for_it walk_range (fun i σ H6 => ∃ W svs k o10 o11 o12, σ = [some (.ref p), some (.str "names"), some (.ref r), some (.int 0), some (vN m), some (.ref F), some (.ref G), some (vN way), some (.ref D), some (vN k), o10, o11, o12, none] ∧ Keep p H H6 ∧ Hand H6 p c ∧ Wov rows H6 p c F G W svs ∧ W.length ≤ i ∧ H6 D = some (.lst (ns.map V.int)))
      ⟨[], [.ref a1], 0, none, none, none, rfl, k05, h5', w5, Nat.le_refl _, e5⟩ (fun _ _ _ _ _ => trivial) (fun i x σ H6 H7 hi z y => ?_) (fun σ H6 z => ?_)
    · obtain ⟨W, svs, k, o10, o11, o12, rfl, k6, h6, w6, lW, e6⟩ := z
      obtain ⟨rfl, rfl⟩ := y
      have ok := runW_ok rows W
      obtain ⟨v, hv, rv⟩ := w6.last
      have ln5 : (left (runW rows W)).length ≤ 5 := Nat.le_trans (left_len ok) h5
      -- those that may go on
      refine ⟨_, rfl, 1, rfl, G, svs, _, v, rfl, rfl, sqL w6.g, hv, v, runW rows W, rfl, rv, st5 _ ok, fun H7 a7 s7 e7 => ⟨a7, rfl, ⟨_, sqT e7⟩, fun L nL => lc_sel walk_tup (fun j => (left (runW rows W))[j]?.bind fun z => if (!(decide (((z : Nat) : Int) ∈ ns) && decide (¬ i < 4))) = true then some (vN z) else none) nL (fun H' s => sqT (s _ _ e7)) (by rw [List.length_map]; omega) (fun j x H8 H9 Kp Kn hj s y kp kn => ?_) (fun H8 s8 e8 => ?_)⟩⟩
      · obtain ⟨rfl, hx⟩ := y
        obtain ⟨z, hz, rfl⟩ := map_at hx
        rw [hz] at kp kn
        refine ⟨rfl, _, rfl, _, rfl, D, _, rfl, .inl (sqL (s _ _ (s7 _ _ e6))), rfl, flat_ints _, _, rfl, ?_⟩
        show if (!inV (.int ((z : Nat) : Int)) (ns.map V.int)) = true then _ else _
        rw [inV_ints]
        by_cases e : ((z : Nat) : Int) ∈ ns
        · refine iteNS e ⟨_, rfl, _, 4, rfl, rfl, _, rfl, ?_⟩
          by_cases e2 : i < 4
          · rw [decide_eq_true (show (0 + (i : Int)) < 4 by omega)]
            refine iteT ⟨_, rfl, kp _ _ (Same.refl _) ?_⟩
            show (if (!(decide (((z : Nat) : Int) ∈ ns) && decide (¬ i < 4))) = true then some (vN z) else none) = _
            rw [if_pos (by simp; omega)]
          · rw [decide_eq_false (show ¬ (0 + (i : Int)) < 4 by omega)]
            refine iteF (kn _ (Same.refl _) ?_)
            show (if (!(decide (((z : Nat) : Int) ∈ ns) && decide (¬ i < 4))) = true then some (vN z) else none) = _
            rw [if_neg (by simp; exact ⟨e, by omega⟩)]
        · refine iteNN e ⟨_, rfl, kp _ _ (Same.refl _) ?_⟩
          show (if (!(decide (((z : Nat) : Int) ∈ ns) && decide (¬ i < 4))) = true then some (vN z) else none) = _
          rw [if_pos (by simp; exact .inl e)]
      rw [List.length_map, sub_map] at e8
      have sm := fun z (hz : z ∈ sub (left (runW rows W)) fun z => !(decide (((z : Nat) : Int) ∈ ns) && decide (¬ i < 4))) => sub_mem hz
      have sl := sub_len (left (runW rows W)) fun z => !(decide (((z : Nat) : Int) ∈ ns) && decide (¬ i < 4))
      generalize (sub (left (runW rows W)) fun z => !(decide (((z : Nat) : Int) ∈ ns) && decide (¬ i < 4))) = Ls at e8 sm sl
      have s68 := s7.trans s8
      have k8 := k6.trans (Keep.of s68)
      have h8 := h6.same s68
      have w8 := w6.same s68
      refine ⟨_, rfl, L, _, rfl, .inl (sqL e8), _, 0, rfl, rfl, _, rfl, ?_⟩
      rw [List.length_map]
      by_cases eL : Ls.length = 0
      · rw [decide_eq_false (show ¬ (0 : Int) < (Ls.length : Nat) by omega)]
        exact iteF ⟨W, svs, k, _, _, _, rfl, k8, h8, w8, by omega, s68 _ _ e6⟩
      rw [decide_eq_true (show (0 : Int) < (Ls.length : Nat) by omega)]
      -- those behind
      refine iteT ⟨_, rfl, L, rfl, ⟨_, sqL e8⟩, fun B nB => lc_sel walk_list (fun j => Ls[j]?.bind fun z => if decide (k < z) = true then some (vN z) else none) nB (fun H' s => sqL (s _ _ e8)) (by rw [List.length_map]; omega) (fun j x H9 H10 Kp Kn hj s y kp kn => ?_) (fun H9 s9 e9 => ?_)⟩
      · obtain ⟨rfl, hx⟩ := y
        obtain ⟨z, hz, rfl⟩ := map_at hx
        rw [hz] at kp kn
        refine ⟨rfl, _, rfl, _, rfl, ((z : Nat) : Int), ((k : Nat) : Int), rfl, rfl, _, rfl, ?_⟩
        by_cases e : k < z
        · rw [decide_eq_true (show ((k : Nat) : Int) < ((z : Nat) : Int) by omega)]
          refine iteT ⟨_, rfl, kp _ _ (Same.refl _) ?_⟩
          show (if decide (k < z) = true then some (vN z) else none) = _
          rw [if_pos (by simpa using e)]
        · rw [decide_eq_false (show ¬ ((k : Nat) : Int) < ((z : Nat) : Int) by omega)]
          refine iteF (kn _ (Same.refl _) ?_)
          show (if decide (k < z) = true then some (vN z) else none) = _
          rw [if_neg (by simpa using e)]
      rw [List.length_map, sub_map] at e9
      have bm := fun z (hz : z ∈ sub Ls fun z => decide (k < z)) => sub_mem hz
      generalize (sub Ls fun z => decide (k < z)) = Bs at e9 bm
      have k9 := k8.trans (Keep.of s9)
      have h9 := h8.same s9
      have w9 := w8.same s9
      have eL9 := s9 _ _ e8
      have eD9 := s9 _ _ (s68 _ _ e6)
      have nLp : L ≠ p := (h6.ne (s7.free nL)).1
      -- the next one
      refine ⟨fun σ H10 => ∃ k' : Nat, σ = [some (.ref p), some (.str "names"), some (.ref r), some (.int 0), some (vN m), some (.ref F), some (.ref G), some (vN way), some (.ref D), some (vN k'), some (.int (0 + (i : Int))), some (.ref L), some (.ref B), none] ∧ k' ∈ Ls ∧ Keep p H9 H10 ∧ Hand H10 p c, ?_, ?_⟩
      · refine ⟨_, rfl, rfl, _, rfl, ite2 (fun _ => ?_) (fun _ => ?_)⟩
        · refine ⟨_, rfl, B, _, rfl, .inl (sqL e9), _, 0, rfl, rfl, _, rfl, ?_⟩
          rw [List.length_map]
          cases Bs with
          | nil =>
            rw [decide_eq_false (by simp)]
            match Ls, eL, eL9 with
            | z :: zs, _, eL9 => exact iteF ⟨_, rfl, L, _, 0, vN z, rfl, rfl, sqL eL9, atI_nat (j := 0) rfl, z, rfl, List.mem_cons_self, Keep.refl _ _, h9⟩
            | [], eL, _ => exact absurd rfl eL
          | cons z zs =>
            rw [decide_eq_true (by simp)]
            exact iteT ⟨_, rfl, B, _, 0, vN z, rfl, rfl, sqL e9, atI_nat (j := 0) rfl, z, rfl, bm z List.mem_cons_self, Keep.refl _ _, h9⟩
        · refine ⟨_, rfl, rfl, _, rfl, ite2 (fun _ => ?_) (fun _ => ?_)⟩
          · refine ⟨_, rfl, _, rfl, p, c, L, _, rfl, h9, eL9, nLp, by rw [List.length_map]; omega, by rw [List.length_map]; omega, fun j v H10 hv k10 h10 => ?_⟩
            obtain ⟨z, hz, rfl⟩ := map_at hv
            exact ⟨z, rfl, List.mem_of_getElem? hz, k10, h10⟩
          · refine ⟨_, rfl, _, rfl, L, _, rfl, .inl (sqL eL9), rfl, flat_nats _, _, rfl, ?_⟩
            show if (!inV (vN k) (Ls.map vN)) = true then _ else _
            rw [inV_nats]
            by_cases e : k ∈ Ls
            · refine iteNS e ⟨_, rfl, p, c, _, rfl, h9, by omega, by omega, fun d H10 hd k10 h10 => ⟨rfl, _, rfl, ite2 (fun _ => ?_) (fun _ => ?_)⟩⟩
              · refine ⟨_, rfl, _, rfl, p, c, L, _, rfl, h10, k10 _ _ nLp eL9, nLp, by rw [List.length_map]; omega, by rw [List.length_map]; omega, fun j v H11 hv k11 h11 => ?_⟩
                obtain ⟨z, hz, rfl⟩ := map_at hv
                exact ⟨z, rfl, List.mem_of_getElem? hz, k10.trans k11, h11⟩
              · exact ⟨k, rfl, e, k10, h10⟩
            · refine iteNN e ⟨_, rfl, _, rfl, p, c, L, _, rfl, h9, eL9, nLp, by rw [List.length_map]; omega, by rw [List.length_map]; omega, fun j v H10 hv k10 h10 => ?_⟩
              obtain ⟨z, hz, rfl⟩ := map_at hv
              exact ⟨z, rfl, List.mem_of_getElem? hz, k10, h10⟩
      · rintro σ H10 ⟨k', rfl, hk', k10, h10⟩
        have hst := mem_left.mp (sm k' hk')
        have hlt := left_lt ok (sm k' hk')
        have w10 := w9.keep h9 k10
        have k010 := k9.trans k10
        have eD10 := k10 _ _ hDp.1 eD9
        -- found.append(one)
        refine ⟨_, rfl, .inl ⟨rfl, _, sqL w10.f⟩, _, rfl, F, _, vN k', rfl, rfl, w10.f, line' (by rw [List.length_map]; omega), ?_⟩
        have g11 : (upd H10 F (.lst (W.map vN ++ [vN k']))) G = some (.lst svs) := by rw [upd_ne w10.fg.symm]; exact w10.g
        have kt : ∀ b xs, H10 b = some (.tup xs) → upd H10 F (.lst (W.map vN ++ [vN k'])) b = some (.tup xs) := fun b xs e => by
          rw [upd_ne (ne_of e w10.f (by intro z; cases z))]; exact e
        have k11 : Keep p H (upd H10 F (.lst (W.map vN ++ [vN k']))) := k010.put nF
        have h11 : Hand (upd H10 F (.lst (W.map vN ++ [vN k']))) p c := hh.putN nF h10
        have d11 : (upd H10 F (.lst (W.map vN ++ [vN k']))) D = some (.lst (ns.map V.int)) := by rw [upd_ne nFD.symm]; exact eD10
        obtain ⟨v, hv, rv⟩ := w10.last
        have lg := w10.r.len'
        rw [stood_len] at lg
        refine ⟨_, rfl, .inl ⟨rfl, _, sqL g11⟩, _, rfl, _, rfl, _, rfl, _, rfl, 1, rfl, G, svs, _, v, rfl, rfl, sqL g11, hv, _, rfl, r, rows, v, runW rows W, k', rfl, rp k11, rv.keep kt, ok, h5, hst, fun H12 a12 s12 r12 => ?_⟩
        refine ⟨G, svs, .ref a12, rfl, rfl, s12 _ _ g11, line' (by omega), W ++ [k'], svs ++ [.ref a12], k', _, _, _, rfl, ?_, ?_, w10.step hlt hst s12 r12, by rw [List.length_append, List.length_singleton]; omega, ?_⟩
        · exact (k11.trans (Keep.of s12)).put nG0
        · exact hh.putN nG0 (h11.same s12)
        · rw [upd_ne nGD.symm]; exact s12 _ _ d11
    · obtain ⟨W, svs, k, o10, o11, o12, rfl, k6, h6, w6, lW, e6⟩ := z
      refine ⟨_, rfl, _, rfl, line (by simp), fun a na => ?_⟩
      exact q _ a F G W svs upd_same (w6.same (same_new na)) (by omega) (k6.trans (Keep.of (same_new na))) (h6.new na)
end
end Nm


set_option Elab.async false
set_option linter.all false
set_option maxRecDepth 100000
set_option maxHeartbeats 8000000
namespace Nm
open PySem PySem.Spec PyProof.Rows L2
theorem lv_dC (c : Cell) : Lv 1 (dC c) := by
  cases c with
  | none => exact .non _
  | some z => exact .tup (fun d hd => by simp at hd; rcases hd with rfl | rfl <;> exact .int _ _) (by simp)
theorem lv_dT (c : Stt) : Lv 1 (dT c) := by
  cases c with
  | none => exact .non _
  | some z => exact .tup (fun d hd => by simp at hd; rcases hd with rfl | rfl <;> first | exact .int _ _ | exact .bl _ _) (by simp)
theorem lv_map {α : Type} {n : Nat} (f : α → D) (l : List α) (h : ∀ x, x ∈ l → Lv n (f x)) (hl : l.length ≤ 1000) : Lv (n + 1) (.tup (l.map f)) :=
  .tup (fun d hd => by obtain ⟨x, hx, rfl⟩ := List.mem_map.mp hd; exact h x hx) (by rw [List.length_map]; exact hl)
theorem one_told {rows : List Int} {S : Sd} (k : Ok rows S) : ∀ ws ∈ S.told, ws.length ≤ 1 := fun ws hw => by
  obtain ⟨i, hi, e⟩ := List.mem_iff_getElem.mp hw
  have e2 : S.told.getD i [] = ws := by rw [List.getD_eq_getElem?_getD, List.getElem?_eq_getElem hi, e]; rfl
  rw [← e2]
  rcases told_form k i (by rw [← k.lt]; exact hi) with ⟨z, _⟩ | ⟨_, z, _⟩ <;> rw [z] <;> simp
theorem lv_dS {rows : List Int} {S : Sd} (k : Ok rows S) (h5 : rows.length ≤ 5) : Lv 3 (dS S) := by
  have k1 := k.lc
  have k2 := k.ls
  have k3 := k.lt
  refine .tup (fun d hd => ?_) (by simp)
  simp only [List.mem_cons, List.not_mem_nil, or_false] at hd
  rcases hd with rfl | rfl | rfl
  · exact lv_map _ _ (fun x _ => lv_dC x) (by omega)
  · exact lv_map _ _ (fun x _ => lv_dT x) (by omega)
  · refine lv_map _ _ (fun x hx => ?_) (by omega)
    exact lv_map _ _ (fun y _ => .int _ _) (by have := one_told k x hx; omega)
abbrev dN (k : Nat) : D := .int ((k : Nat) : Int)
theorem rp_nats {H : Hp} {a : Addr} (l : List Nat) (h : H a = some (.tup (l.map vN))) : Rp H (.ref a) (.tup (l.map dN)) := by
  refine .mk h ⟨by simp, fun i v d h1 h2 => ?_⟩
  obtain ⟨z, hz, rfl⟩ := map_at h1
  rw [List.getElem?_map, hz] at h2
  rw [← Option.some.inj h2]
  exact .int _
theorem lv_nats {n : Nat} (l : List Nat) (h : l.length ≤ 1000) : Lv (n + 1) (.tup (l.map dN)) := lv_map _ _ (fun _ _ => .int _ _) h
theorem out_len {rows : List Int} {W : List Nat} (v : Valid rows W) (h5 : rows.length ≤ 5) : (outN rows 2000 (W, runW rows W)).1.length ≤ W.length + 20 := by
  rw [out_same (out_left v h5 (n := 2000) (by omega)) (out_left v h5 (n := 20) (by omega))]
  exact (out_inv v 20).2.2.1
section
variable {P : Program} {w : World} {K : PySem.W.Frag} {mg : Str → Option Value} {base : Heap}
abbrev s__law_led_right : Stmt := top 136
abbrev N__law_led_right : List Str := ["_law_hand_here", "_law_kind", "_law_rows", "_law_rounds", "_law_play", "_law_most", "_law_weaving", "_law_stood", "_law_at", "_law_here", "_law_ahead", "_law_one", "_law_whole_here", "_law_last"]
abbrev p__law_led_right : List Str := ["_law_hand_here", "_law_kind", "_law_rows", "_law_rounds", "_law_play", "_law_most"]
theorem sc__law_led_right : FnScope N__law_led_right p__law_led_right (defScope s__law_led_right) := ⟨rfl, rfl, rfl, by decide +kernel, rfl, by decide +kernel, by decide +kernel⟩

def sp_law_led_right (K : PySem.W.Frag) : Sp := fun vs H Q _ => ∃ (p c r : Addr) (rows : List Int) (pa : Addr) (m : Nat), vs = [.ref p, .str "names", .ref r, .int 0, .ref pa, vN m] ∧ Hand H p c ∧ H r = some (.tup (rows.map V.int)) ∧ PlayAt K H pa rows ∧ 1 ≤ rows.length ∧ rows.length ≤ 5 ∧ m ≤ 50 ∧
  ∀ H' v S, Rp H' v (dS S) → Ok rows S → left S = [] → Keep p H H' → Hand H' p c → Q v H'
theorem wk__law_led_right (T : Fx K mg) (a_ : At K mg "_law_led_right" s__law_led_right p__law_led_right) (c__law_woven : Cl P w K mg base 3 "_law_woven" p__law_woven (sp_law_woven K)) (c__law_is : Cl P w K mg base 5 "_law_is" p__law_is (sp_law_is K)) (c_first_standing : Cl P w K mg base 4 "first_standing" p_first_standing (spfirst_standing K)) (c__law_draw : Cl P w K mg base 1 "_law_draw" p__law_draw (sp_law_draw K)) (c__law_some : Cl P w K mg base 2 "_law_some" p__law_some (sp_law_some K)) (c_run : Cl P w K mg base 7 "run" p_run (sprun K)) (c_can_step : Cl P w K mg base 2 "can_step" p_can_step (spcan_step K)) (c__law_left : Cl P w K mg base 1 "_law_left" p__law_left (sp_law_left K)) (c_fault : Cl P w K mg base 6 "fault" p_fault (spfault K)) (c__law_came : Cl P w K mg base 1 "_law_came" p__law_came (sp_law_came K)) (c__law_fault : Cl P w K mg base 2 "_law_fault" p__law_fault (sp_law_fault K)) (c_next_step : Cl P w K mg base 7 "next_step" p_next_step (spnext_step K)) (c__law_next : Cl P w K mg base 1 "_law_next" p__law_next (sp_law_next K)) (c_step : Cl P w K mg base 7 "step" p_step (spstep K)) (c__law_moved : Cl P w K mg base 2 "_law_moved" p__law_moved (sp_law_moved K)) (c__law_whole : Cl P w K mg base 3 "_law_whole" p__law_whole (sp_law_whole K)) (c_run_out : Cl P w K mg base 8 "run_out" p_run_out (sprun_out K)) : Cl P w K mg base 9 "_law_led_right" p__law_led_right (sp_law_led_right K) := by
  refine a_.cl sc__law_led_right (fun vs H Q E h => ?_) (fun f_ cdv A outer s_ H vs Q E hr h => ?_)
  · obtain ⟨p, c, r, rows, pa, m, rfl, _⟩ := h
    rfl
  · obtain ⟨p, c, r, rows, pa, m, rfl, hh, er, hp, h1, h5, hm, q⟩ := h
    refine ⟨_, (pss_cons (ps_asg (pe_cl c__law_woven hr (by decide) (by rfl) (pa_cons (pv 0) (pa_cons (pv 1) (pa_cons (pv 2) (pa_cons (pv 3) (pa_cons (pv 5) pa_nil)))))) (pg_tup rfl (pgs_cons (pg_name (i := 6) sc__law_led_right.nd rfl (by first | exact Or.inl rfl | exact Or.inr rfl)) (pgs_cons (pg_name (i := 7) sc__law_led_right.nd rfl (by first | exact Or.inl rfl | exact Or.inr rfl)) pgs_nil))))
        (pss_cons (ps_if (pt_not (pt_val (pe_cl c__law_is hr (by decide) (by rfl) (pa_cons (pe_cl c_first_standing hr (by decide) (by rfl) (pa_cons (pv 4) pa_nil)) (pa_cons (pe_ix ix_list (pv 7) pe_int (fun _ _ => rfl)) pa_nil))))) (pss_one (ps_ret pe_non)) pss_nil)
        (pss_cons (ps_for PassesOwn.never rfl (pi_list (pe_lst (pa_cons (pe_callB call_len_seq (by rfl) T.z_len (by decide +kernel) (pa_cons (pv 6) pa_nil)) (pa_cons (pe_cl c__law_draw hr (by decide) (by rfl) (pa_cons (pv 0) (pa_cons (pe_op op_add (pe_callB call_len_seq (by rfl) T.z_len (by decide +kernel) (pa_cons (pv 6) pa_nil)) pe_int) pa_nil))) (pa_cons (pe_cl c__law_draw hr (by decide) (by rfl) (pa_cons (pv 0) (pa_cons (pe_op op_add (pe_callB call_len_seq (by rfl) T.z_len (by decide +kernel) (pa_cons (pv 6) pa_nil)) pe_int) pa_nil))) pa_nil))))) (pg_name (i := 8) sc__law_led_right.nd rfl (by first | exact Or.inl rfl | exact Or.inr rfl)) (pss_cons (ps_par (i := 9) (j := 10) (by rfl) sc__law_led_right.nd rfl rfl (by decide) rfl rfl (pa_cons (pe_ix ix_list (pv 7) (pv 8) (fun _ _ => rfl)) (pa_cons (pe_cl c__law_some hr (by decide) (by rfl) (pa_cons (pv 0) (pa_cons (pe_lst (pa_cons (pe_slice sl_list (pv 6) po_none (po_some (pv 8))) (pa_cons (pe_callTy call_tuple_of (by rfl) T.z_tuple (by decide +kernel) (pa_cons (pe_slice sl_list (pv 6) po_none (po_some (pv 8))) pa_nil)) pa_nil))) pa_nil))) pa_nil)) (by rfl))
        (pss_cons (ps_if (pt_not (pt_val (pe_cl c__law_is hr (by decide) (by rfl) (pa_cons (pe_lst (pa_cons (pe_cl c_run hr (by decide) (by rfl) (pa_cons (pv 4) (pa_cons (pv 10) pa_nil))) (pa_cons (pe_cl c_can_step hr (by decide) (by rfl) (pa_cons (pv 4) (pa_cons (pv 9) pa_nil))) pa_nil))) (pa_cons (pe_lst (pa_cons (pv 9) (pa_cons (pe_cl c__law_left hr (by decide) (by rfl) (pa_cons (pv 9) pa_nil)) pa_nil))) pa_nil))))) (pss_one (ps_ret pe_non)) pss_nil)
        (pss_cons (ps_if (pt_cmpR op_notN (pe_cl c_fault hr (by decide) (by rfl) (pa_cons (pv 4) (pa_cons (pe_cl c__law_came hr (by decide) (by rfl) (pa_cons (pv 10) pa_nil)) (pa_cons (pe_ix ix_tup (pv 9) pe_int (fun _ _ => rfl)) pa_nil)))) pe_non (nomark _)) (pss_one (ps_ret pe_non)) pss_nil)
        (pss_cons (ps_if (pt_cmpR op_notN (pe_cl c__law_fault hr (by decide) (by rfl) (pa_cons (pv 1) (pa_cons (pv 2) (pa_cons (pv 3) (pa_cons (pe_cl c__law_came hr (by decide) (by rfl) (pa_cons (pv 10) pa_nil)) (pa_cons (pe_ix ix_tup (pv 9) pe_int (fun _ _ => rfl)) pa_nil)))))) pe_non (nomark _)) (pss_one (ps_ret pe_non)) pss_nil)
        (pss_one (ps_for PassesOwn.never rfl (pi_tup (pe_cl c__law_left hr (by decide) (by rfl) (pa_cons (pv 9) pa_nil))) (pg_name (i := 11) sc__law_led_right.nd rfl (by first | exact Or.inl rfl | exact Or.inr rfl)) (pss_cons (ps_if (pt_not (pt_val (pe_cl c__law_is hr (by decide) (by rfl) (pa_cons (pe_lst (pa_cons (pe_cl c_next_step hr (by decide) (by rfl) (pa_cons (pv 4) (pa_cons (pv 9) (pa_cons (pv 11) pa_nil)))) pa_nil)) (pa_cons (pe_lst (pa_cons (pe_cl c__law_next hr (by decide) (by rfl) (pa_cons (pv 1) (pa_cons (pe_ix ix_tup (pe_ix ix_tup (pv 9) pe_int (fun _ _ => rfl)) (pv 11) (fun _ _ => rfl)) pa_nil))) pa_nil)) pa_nil))))) (pss_one (ps_ret pe_non)) pss_nil)
        (pss_one (ps_if (pt_not (pt_val (pe_cl c__law_is hr (by decide) (by rfl) (pa_cons (pe_cl c_step hr (by decide) (by rfl) (pa_cons (pv 4) (pa_cons (pv 9) (pa_cons (pv 11) pa_nil)))) (pa_cons (pe_cl c__law_moved hr (by decide) (by rfl) (pa_cons (pv 1) (pa_cons (pv 2) (pa_cons (pv 3) (pa_cons (pv 9) (pa_cons (pv 11) pa_nil)))))) pa_nil))))) (pss_one (ps_ret pe_non)) pss_nil))))))))))
        (pss_cons (ps_asg (pe_cl c__law_whole hr (by decide) (by rfl) (pa_cons (pv 1) (pa_cons (pv 2) (pa_cons (pv 3) (pa_cons (pv 6) (pa_cons (pe_ix ix_list (pv 7) (pe_un un_neg pe_int) (fun _ _ => rfl)) pa_nil)))))) (pg_tup rfl (pgs_cons (pg_name (i := 12) sc__law_led_right.nd rfl (by first | exact Or.inl rfl | exact Or.inr rfl)) (pgs_cons (pg_name (i := 13) sc__law_led_right.nd rfl (by first | exact Or.inl rfl | exact Or.inr rfl)) pgs_nil))))
        (pss_cons (ps_if (PW.pt (pw_or (pt_not (pt_val (pe_cl c__law_is hr (by decide) (by rfl) (pa_cons (pe_cl c_run_out hr (by decide) (by rfl) (pa_cons (pv 4) (pa_cons (pv 6) pa_nil))) (pa_cons (pv 12) pa_nil))))) (pw_or1 (pt_not (pt_val (pe_cl c__law_is hr (by decide) (by rfl) (pa_cons (pe_cl c_run hr (by decide) (by rfl) (pa_cons (pv 4) (pa_cons (pv 12) pa_nil))) (pa_cons (pv 13) pa_nil)))))))) (pss_one (ps_ret pe_non)) pss_nil)
        (pss_one (ps_ret (pe_ifExp (pt_cmpR op_isN (pe_cl c__law_fault hr (by decide) (by rfl) (pa_cons (pv 1) (pa_cons (pv 2) (pa_cons (pv 3) (pa_cons (pe_cl c__law_came hr (by decide) (by rfl) (pa_cons (pv 12) pa_nil)) (pa_cons (pe_ix ix_tup (pv 13) pe_int (fun _ _ => rfl)) pa_nil)))))) pe_non (nomark _)) (pv 13) pe_non)))))))), ?_⟩
    have st5 : ∀ S, Ok rows S → S.states.length ≤ 5 := fun S k => by rw [k.ls]; exact h5
    have rp : ∀ {H' : Hp}, Keep p H H' → H' r = some (.tup (rows.map V.int)) := fun k => tupH er hh k
    have pp : ∀ {H' : Hp}, Keep p H H' → PlayAt K H' pa rows := fun k => hp.keepH hh k
    -- woven
    refine ⟨_, rfl, _, rfl, _, rfl, _, rfl, _, rfl, p, c, r, rows, m, rfl, hh, er, h1, h5, hm, fun H1 a F G W svs ea w1 lW k1 hh1 => ⟨a, _, rfl, sqT ea, rfl, _, _, rfl, _, _, rfl, rfl, ?_⟩⟩
    have val := w1.v
    -- first standing
    obtain ⟨v0, hv0, rv0⟩ := w1.r.get (i := 0) (d := dS (begun rows.length)) (by rw [List.getElem?_map, stood_at (Nat.zero_le _)]; rfl)
    refine ⟨_, rfl, pa, rows, rfl, pp k1, h1, h5, fun H2 a2 s2 r2 => ⟨_, rfl, G, svs, 0, v0, rfl, rfl, sqL (s2 _ _ w1.g), atI_nat (j := 0) hv0, _, _, rfl, .inl ⟨dS (begun rows.length), .succ (lv_dS (ok_begun rows) h5), r2, rv0.same s2⟩, fun H3 s3 => ⟨true, rfl, iteNT ?_⟩⟩⟩
    have k3 := k1.trans (Keep.of (s2.trans s3))
    have hh3 := hh1.same (s2.trans s3)
    have w3 := w1.same (s2.trans s3)
    -- the three places
    refine ⟨_, rfl, F, _, rfl, .inl (sqL w3.f), _, rfl, _, rfl, F, _, rfl, .inl (sqL w3.f), _, 1, rfl, rfl, p, c, _, rfl, hh3, by omega, by rw [List.length_map]; omega, fun d1 H4 hd1 k4 hh4 => ?_⟩
    have w4 := w3.keep hh3 k4
    refine ⟨_, rfl, _, rfl, F, _, rfl, .inl (sqL w4.f), _, 1, rfl, rfl, p, c, _, rfl, hh4, by omega, by rw [List.length_map]; omega, fun d2 H5 hd2 k5 hh5 => ?_⟩
    have w5 := w4.keep hh4 k5
    rw [List.length_map] at hd1 hd2
    refine ⟨line (by simp), fun l nl => ⟨l, rfl, ⟨_, sqL upd_same⟩, ?_⟩⟩
    have sl := same_new (o := .lst [.int ((W.map vN).length : Nat), vN d1, vN d2]) nl
    have w6 := w5.same sl
    have hh6 := hh5.same sl
    have k6 := ((k3.trans k4).trans k5).trans (Keep.of sl)
    have hlp := (hh5.ne nl).1
    have el : (upd H5 l (.lst [.int ((W.map vN).length : Nat), vN d1, vN d2])) l = some (.lst [.int ((W.map vN).length : Nat), vN d1, vN d2]) := upd_same
    have xn : ∀ (i : Nat) (x : V), [V.int ((W.map vN).length : Nat), vN d1, vN d2][i]? = some x → ∃ at_ : Nat, x = vN at_ ∧ at_ ≤ W.length := fun i x hx => by
      match i, hx with
      | 0, hx => exact ⟨W.length, by rw [← Option.some.inj hx, List.length_map], Nat.le_refl _⟩
      | 1, hx => exact ⟨d1, (Option.some.inj hx).symm, by omega⟩
      | 2, hx => exact ⟨d2, (Option.some.inj hx).symm, by omega⟩
      | i + 3, hx => simp at hx
    generalize upd H5 l (.lst [.int ((W.map vN).length : Nat), vN d1, vN d2]) = H6 at w6 hh6 k6 el ⊢
    generalize hxs : [V.int ((W.map vN).length : Nat), vN d1, vN d2] = xs at el xn ⊢
    refine for_it (walk_list (xs := xs)) (fun i σ H7 => ∃ o8 o9 o10 o11, σ = [some (.ref p), some (.str "names"), some (.ref r), some (.int 0), some (.ref pa), some (vN m), some (.ref F), some (.ref G), o8, o9, o10, o11, none, none] ∧ Keep p H H7 ∧ Hand H7 p c ∧ Wov rows H7 p c F G W svs ∧ H7 l = some (.lst xs))
      ⟨none, none, none, none, rfl, k6, hh6, w6, el⟩ (fun i σ H7 _ z => ?_) (fun i x σ H70 H7 hi z y => ?_) (fun σ H7 z => ?_)
    · obtain ⟨o8, o9, o10, o11, rfl, k7, h7, w7, e7⟩ := z
      exact sqL e7
    · obtain ⟨o8, o9, o10, o11, rfl, k7, h7, w7, e7⟩ := z
      obtain ⟨rfl, hx⟩ := y
      obtain ⟨at_, rfl, hat⟩ := xn i x hx
      have ok := runW_ok rows (W.take at_)
      have val' := val.take at_
      have ltk : (W.take at_).length ≤ 50 := by rw [List.length_take]; omega
      obtain ⟨v, hv, rv⟩ := w7.r.get (i := at_) (d := dS (runW rows (W.take at_))) (by rw [List.getElem?_map, stood_at hat]; rfl)
      -- here, ahead
      refine ⟨_, rfl, _, rfl, G, svs, at_, v, rfl, rfl, sqL w7.g, atI_nat hv, _, rfl, _, rfl, _, rfl, _, rfl, F, _, rfl, sqL w7.f, fun l4 n4 => ⟨_, rfl, _, rfl, _, rfl, F, _, rfl, sqL (same_new n4 _ _ w7.f), fun l5 n5 => ⟨l5, _, rfl, .inl ⟨sqL upd_same, fun t6 n6 => ⟨line (by simp), fun l7 n7 => ?_⟩⟩⟩⟩⟩
      rw [cut_to] at n5 n6 n7 ⊢
      have q4 := same_new (o := .lst ((W.map vN).take at_)) n4
      have q5 := same_new (o := .lst ((W.map vN).take at_)) n5
      have q6 := same_new (o := .tup ((W.map vN).take at_)) n6
      have q7 := same_new (o := .lst [.ref l4, .ref t6]) n7
      have s8 := ((q4.trans q5).trans q6).trans q7
      have e4 := q7 _ _ (q6 _ _ (q5 _ _ (upd_same (H := H7) (a := l4) (o := .lst ((W.map vN).take at_)))))
      have e6 := q7 _ _ (upd_same (H := upd (upd H7 l4 (.lst ((W.map vN).take at_))) l5 (.lst ((W.map vN).take at_))) (a := t6) (o := .tup ((W.map vN).take at_)))
      have n7' : H7 l7 = none := ((q4.trans q5).trans q6).free n7
      have n6' : H7 t6 = none := (q4.trans q5).free n6
      have e7' := upd_same (H := upd (upd (upd H7 l4 (.lst ((W.map vN).take at_))) l5 (.lst ((W.map vN).take at_))) t6 (.tup ((W.map vN).take at_))) (a := l7) (o := .lst [.ref l4, .ref t6])
      generalize upd (upd (upd (upd H7 l4 (.lst ((W.map vN).take at_))) l5 (.lst ((W.map vN).take at_))) t6 (.tup ((W.map vN).take at_))) l7 (.lst [.ref l4, .ref t6]) = H8 at s8 e4 e6 e7' ⊢
      refine ⟨p, c, l7, _, rfl, h7.same s8, e7', (h7.ne n7').1, by simp, by simp, fun j u H9 hu k9 h9 => ⟨_, _, rfl, ?_⟩⟩
      obtain ⟨b, rfl, hb⟩ : ∃ b, u = .ref b ∧ Wv H9 b (W.take at_) := by
        match j, hu with
        | 0, hu => exact ⟨l4, (Option.some.inj hu).symm, .inl (by rw [List.map_take]; exact k9 _ _ (h7.ne n4).1 e4)⟩
        | 1, hu => exact ⟨t6, (Option.some.inj hu).symm, .inr (by rw [List.map_take]; exact k9 _ _ (h7.ne n6').1 e6)⟩
        | j + 2, hu => simp at hu
      have k79 : Keep p H7 H9 := (Keep.of s8).trans k9
      have w9 := w7.keep h7 k79
      have k09 := k7.trans k79
      have el9 := k79 _ _ hlp e7
      have rv9 := rv.keepH h7 k79
      have hp9 := pp k09
      have er9 := rp k09
      clear e4 e6 e7' s8 q4 q5 q6 q7 n4 n5 n6 n7 n6' n7' hu
      obtain ⟨a0, c0, s0, t0, cvs, svs0, tvs, rfl, ha, hc, rc, hs, rs, ht, rt⟩ := rpS rv9
      -- run and can_step
      refine ⟨_, rfl, _, rfl, pa, rows, b, W.take at_, rfl, hp9, hb, val', by omega, h1, h5, fun H10 a10 s10 r10 => ⟨_, rfl, _, rfl, _, _, runW rows (W.take at_), rfl, rv9.same s10, st5 _ ok, fun H11 a11 s11 e11 => ⟨line (by simp), fun l12 n12 => ?_⟩⟩⟩
      have q12 := same_new (o := .lst [.ref a10, .ref a11]) n12
      have s912 := (s10.trans s11).trans q12
      refine ⟨_, rfl, _, rfl, _, runW rows (W.take at_), rfl, rv9.same s912, st5 _ ok, fun H13 a13 s13 e13 => ⟨line (by simp), fun l14 n14 => ?_⟩⟩
      have q14 := same_new (o := .lst [.ref a0, .ref a13]) n14
      have s1214 := s13.trans q14
      have s914 := s912.trans s1214
      refine ⟨_, _, rfl, .inr ⟨3, l12, l14, _, _, [dS (runW rows (W.take at_)), .tup ((left (runW rows (W.take at_))).map dN)], rfl, rfl, rfl, s1214 _ _ upd_same, upd_same, ?_, ?_, ?_, by simp⟩, fun H15 s15 => ⟨true, rfl, iteNT ?_⟩⟩
      · exact .cons (r10.same ((s11.trans q12).trans s1214)) (.cons ((rp_nats _ e11).same (q12.trans s1214)) .nil)
      · exact .cons (rv9.same s914) (.cons ((rp_nats _ e13).same q14) .nil)
      · intro d hd
        simp only [List.mem_cons, List.not_mem_nil, or_false] at hd
        rcases hd with rfl | rfl
        · exact lv_dS ok h5
        · exact lv_nats _ (by have := left_len ok; omega)
      have s915 := s914.trans s15
      -- fault
      refine ⟨_, rfl, _, rfl, b, rows, W.take at_, rfl, hb.same s915, val', h5, by omega, fun H16 a16 cm s16 e16 cmk => ?_⟩
      have tok := cmk.told val' h5
      have s916 := s915.trans s16
      refine ⟨_, rfl, a0, _, 2, _, rfl, rfl, sqT (s916 _ _ ha), atI_nat (j := 2) rfl, pa, rows, a16, cm, t0, tvs, _, rfl, hp9.same s916, e16, s916 _ _ ht, rt.same s916, tok, h5, fun H17 s17 => ⟨rfl, _, rfl, iteNS rfl ?_⟩⟩
      have s917 := s916.trans s17
      -- the law's own
      refine ⟨_, rfl, _, rfl, _, rfl, _, rfl, b, rows, W.take at_, rfl, hb.same s917, val', h5, by omega, fun H18 a18 cm2 s18 e18 cmk2 => ?_⟩
      have s918 := s917.trans s18
      refine ⟨_, rfl, a0, _, 2, _, rfl, rfl, sqT (s918 _ _ ha), atI_nat (j := 2) rfl, r, rows, a18, cm2, t0, tvs, _, rfl, s918 _ _ er9, e18, s918 _ _ ht, rt.same s918, cmk2.told val' h5, h5, fun H19 s19 => ⟨rfl, _, rfl, iteNS rfl ?_⟩⟩
      have s919 := s918.trans s19
      -- each that may step
      refine ⟨_, rfl, _, runW rows (W.take at_), rfl, rv9.same s919, st5 _ ok, fun H20 a20 s20 e20 => ⟨a20, rfl, ⟨_, sqT e20⟩, ?_⟩⟩
      have s920 := s919.trans s20
      refine for_it (walk_tup (xs := (left (runW rows (W.take at_))).map vN)) (fun i2 σ H21 => ∃ o11, σ = [some (.ref p), some (.str "names"), some (.ref r), some (.int 0), some (.ref pa), some (vN m), some (.ref F), some (.ref G), some (vN at_), some (.ref a0), some (.ref b), o11, none, none] ∧ Same H20 H21)
        ⟨o11, rfl, Same.refl _⟩ (fun i2 σ H21 _ z => ?_) (fun i2 x2 σ H210 H21 hi2 z y => ?_) (fun σ H21 z => ?_)
      · obtain ⟨o11, rfl, s21⟩ := z
        exact sqT (s21 _ _ e20)
      · obtain ⟨o11, rfl, s21⟩ := z
        obtain ⟨rfl, hx2⟩ := y
        obtain ⟨h0, hh0, rfl⟩ := map_at hx2
        have hm0 := List.mem_of_getElem? hh0
        have hst := mem_left.mp hm0
        have hlt := left_lt ok hm0
        have s921 := s920.trans s21
        cases est : (runW rows (W.take at_)).states.getD h0 none with
        | none => exact absurd est hst
        | some st =>
          obtain ⟨w', bb⟩ := st
          have hhs := lt_of_state est
          obtain ⟨vst, hvst, rst⟩ := rs.getD hhs none
          rw [est] at rst
          -- next_step
          refine ⟨_, rfl, _, rfl, _, rfl, pa, rows, _, runW rows (W.take at_), h0, w', bb, rfl, hp9.same s921, rv9.same s921, hlt, est, fun H22 a22 s22 r22 => ⟨line (by simp), fun l23 n23 => ?_⟩⟩
          have q23 := same_new (o := .lst [.ref a22]) n23
          have s2123 := s22.trans q23
          have s923 := s921.trans s2123
          refine ⟨_, rfl, _, rfl, a0, _, 1, _, rfl, rfl, sqT (s923 _ _ ha), atI_nat (j := 1) rfl, _, rfl, s0, _, _, _, rfl, rfl, sqT (s923 _ _ hs), atI_nat hvst, vst, w', bb, rfl, rst.same s923, fun H24 a24 s24 r24 => ⟨line (by simp), fun l25 n25 => ?_⟩⟩
          have q25 := same_new (o := .lst [.ref a24]) n25
          refine ⟨_, _, rfl, .inr ⟨3, l23, l25, _, _, [.tup [.str (if bb = true then "see" else "put")]], rfl, rfl, rfl, (s24.trans q25) _ _ upd_same, upd_same, .cons (r22.same (q23.trans (s24.trans q25))) .nil, .cons (r24.same q25) .nil, fun d hd => ?_, by simp⟩, fun H26 s26 => ⟨true, rfl, iteNT ?_⟩⟩
          · simp only [List.mem_cons, List.not_mem_nil, or_false] at hd
            subst hd
            exact .tup (fun d hd => by simp only [List.mem_cons, List.not_mem_nil, or_false] at hd; subst hd; exact .str _ _) (by simp)
          have s2126 := ((s2123.trans s24).trans q25).trans s26
          have s926 := s921.trans s2126
          -- step
          refine ⟨_, rfl, _, rfl, _, rfl, pa, rows, _, runW rows (W.take at_), h0, rfl, hp9.same s926, rv9.same s926, ok, h5, hlt, hst, fun H27 a27 s27 r27 => ?_⟩
          have s927 := s926.trans s27
          refine ⟨_, rfl, _, rfl, _, rfl, _, rfl, _, rfl, r, rows, _, runW rows (W.take at_), h0, rfl, s927 _ _ er9, rv9.same s927, ok, h5, hst, fun H28 a28 s28 r28 => ?_⟩
          refine ⟨_, _, rfl, .inl ⟨dS (moved rows (runW rows (W.take at_)) h0), .succ (lv_dS (ok.moved h0) h5), r27.same s28, r28⟩, fun H29 s29 => ⟨true, rfl, iteNT ?_⟩⟩
          exact ⟨_, rfl, (((s21.trans s2126).trans s27).trans s28).trans s29⟩
      · obtain ⟨o11, rfl, s21⟩ := z
        have s921 := s920.trans s21
        exact ⟨_, _, _, _, rfl, k09.trans (Keep.of s921), h9.same s921, w9.same s921, s921 _ _ el9⟩
    · obtain ⟨o8, o9, o10, o11, rfl, k7, h7, w7, e7⟩ := z
      obtain ⟨v, hv, rv⟩ := w7.last
      have hp7 := pp k7
      have er7 := rp k7
      -- whole
      refine ⟨_, rfl, _, rfl, _, rfl, _, rfl, _, rfl, 1, rfl, G, svs, _, v, rfl, rfl, sqL w7.g, hv, r, rows, F, W, v, rfl, er7, w7.f, val, by omega, h5, rv, fun H8 a8 b8 v8 s8 e8 f8 r8 => ⟨a8, _, rfl, sqT e8, rfl, _, _, rfl, _, _, rfl, rfl, ?_⟩⟩
      obtain ⟨i1, i2, i3, i4⟩ := out_inv val 2000
      have ol := out_len val h5
      have lf := out_left val h5 (n := 2000) (by omega)
      generalize hO : outN rows 2000 (W, runW rows W) = O at i1 i2 i3 i4 ol lf f8 r8
      obtain ⟨U, S⟩ := O
      dsimp only at i1 i2 i3 i4 ol lf f8 r8
      subst i1
      have ok := runW_ok rows U
      -- run_out
      refine ⟨_, rfl, _, rfl, pa, rows, F, W, rfl, hp7.same s8, .inl (s8 _ _ w7.f), val, by omega, h1, h5, fun H9 a9 s9 e9 => ?_⟩
      rw [hO] at e9
      refine ⟨_, rfl, _, _, rfl, .inl ⟨.tup (U.map dN), lv_nats (n := 3) U (by omega), rp_nats _ e9, (rp_nats _ f8).same s9⟩, fun H10 s10 => ⟨true, rfl, iteNT ?_⟩⟩
      have s810 := s9.trans s10
      -- run
      refine ⟨_, rfl, _, rfl, pa, rows, b8, U, rfl, hp7.same (s8.trans s810), .inr (s810 _ _ f8), i2, by omega, h1, h5, fun H11 a11 s11 r11 => ?_⟩
      refine ⟨_, rfl, _, _, rfl, .inl ⟨dS (runW rows U), .succ (lv_dS ok h5), r11, r8.same (s810.trans s11)⟩, fun H12 s12 => ⟨true, rfl, iteNT ?_⟩⟩
      have s812 := (s810.trans s11).trans s12
      have s712 := s8.trans s812
      -- the law's own
      refine ⟨_, rfl, _, rfl, _, rfl, _, rfl, b8, rows, U, rfl, .inr (s812 _ _ f8), i2, h5, by omega, fun H13 a13 cm s13 e13 cmk => ?_⟩
      have r13 := r8.same (s812.trans s13)
      obtain ⟨a0, c0, s0, t0, cvs, svs0, tvs, rfl, ha, hc, rc, hs, rs, ht, rt⟩ := rpS r13
      refine ⟨_, rfl, a0, _, 2, _, rfl, rfl, sqT ha, atI_nat (j := 2) rfl, r, rows, a13, cm, t0, tvs, _, rfl, (s712.trans s13) _ _ er7, e13, ht, rt, cmk.told i2 h5, h5, fun H14 s14 => ⟨rfl, _, rfl, ?_⟩⟩
      rw [decide_eq_true rfl]
      have s714 := (s712.trans s13).trans s14
      exact iteT ⟨_, rfl, q _ _ _ (r13.same s14) ok lf (k7.trans (Keep.of s714)) (h7.same s714)⟩
end
end Nm


set_option Elab.async false
set_option linter.all false
set_option maxRecDepth 100000
set_option maxHeartbeats 8000000
namespace Nm
open PySem PySem.Spec PyProof.Rows L2
theorem same_make {H H' : Hp} {x dx : Addr} {o u : HO} (h1 : H x = none) (h2 : H dx = none) (k : Keep x (upd (upd H dx o) x u) H') : Same H H' := fun b z e => by
  have n1 := ne_of_none e h1
  have n2 := ne_of_none e h2
  exact k b z n1 (by rw [upd_ne n1, upd_ne n2]; exact e)
theorem told_all {rows : List Int} {S : Sd} (k : Ok rows S) (e : left S = []) {i : Nat} {ws : List Int} (h : S.told[i]? = some ws) : ws.length = 1 := by
  have hi := (List.getElem?_eq_some_iff.mp h).1
  have z := all_told k e i (by rw [← k.lt]; exact hi)
  rw [List.getD_eq_getElem?_getD, h] at z
  exact z
section
variable {P : Program} {w : World} {K : PySem.W.Frag} {mg : Str → Option Value} {base : Heap}
abbrev s_law : Stmt := top 137
abbrev N_law : List Str := ["_law_script", "_law_hand_here", "_law_turn", "_law_inputs_here", "_law_rows", "_law_rounds", "_law_play", "_law_last", "_law_weaving", "_law_stood", "_law_left_here", "_law_one", "_law_here", "_law_many", "_law_again", "_law_items"]
abbrev p_law : List Str := ["_law_script"]
theorem sc_law : FnScope N_law p_law (defScope s_law) := ⟨rfl, rfl, rfl, by decide +kernel, rfl, by decide +kernel, by decide +kernel⟩

def splaw (K : PySem.W.Frag) : Sp := fun vs H Q _ => ∃ (a : Addr) (ns : List Int), vs = [.ref a] ∧ SqL K H a (ns.map V.int) ∧ ns.length ≤ 63 ∧ ∀ H', Q (.bl true) H'
theorem wk_law (T : Fx K mg) {fL : Addr} {fdL : FuncData} (F_ : FunD K "law" "law" (defArgs s_law) (defBody s_law) (defScope s_law) [] [] fL fdL) (c__law_hand : Cl P w K mg base 1 "_law_hand" p__law_hand (sp_law_hand K)) (c__law_inputs : Cl P w K mg base 3 "_law_inputs" p__law_inputs (sp_law_inputs K)) (c_Play : ClM P w K mg base 7 "Play" (He.ga K "Play") p_Play (spPlay K)) (c__law_led_right : Cl P w K mg base 9 "_law_led_right" p__law_led_right (sp_law_led_right K)) (c__law_draw : Cl P w K mg base 1 "_law_draw" p__law_draw (sp_law_draw K)) (c__law_woven : Cl P w K mg base 3 "_law_woven" p__law_woven (sp_law_woven K)) (c__law_left : Cl P w K mg base 1 "_law_left" p__law_left (sp_law_left K)) (c__law_some : Cl P w K mg base 2 "_law_some" p__law_some (sp_law_some K)) (c__law_moved : Cl P w K mg base 2 "_law_moved" p__law_moved (sp_law_moved K)) (c__law_is : Cl P w K mg base 5 "_law_is" p__law_is (sp_law_is K)) (c_run : Cl P w K mg base 7 "run" p_run (sprun K)) : FnOk P w K mg base CX0 10 fL fdL p_law (splaw K) := by
  refine F_.ok sc_law (fun vs H Q E h => ?_) (fun cdv A outer s_ H vs Q E hr h => ?_)
  · obtain ⟨a0, ns, rfl, _⟩ := h
    rfl
  · obtain ⟨a0, ns, rfl, ea, ln, q⟩ := h
    refine ⟨_, PSs.nox (pss_cons (ps_set (i := 1) sc_law.nd rfl (by first | exact Or.inl rfl | exact Or.inr rfl) (pe_cl c__law_hand hr (by decide) (by rfl) (pa_cons (pv 0) pa_nil)))
        (pss_cons (ps_for PassesOwn.never rfl (pi_range1 (by rfl) T.z_range (pa_cons pe_int pa_nil)) (pg_name (i := 2) sc_law.nd rfl (by first | exact Or.inl rfl | exact Or.inr rfl)) (pss_cons (ps_asg (pe_cl c__law_inputs hr (by decide) (by rfl) (pa_cons (pv 1) (pa_cons pe_str pa_nil))) (pg_tup rfl (pgs_cons (pg_name (i := 3) sc_law.nd rfl (by first | exact Or.inl rfl | exact Or.inr rfl)) (pgs_cons (pg_name (i := 4) sc_law.nd rfl (by first | exact Or.inl rfl | exact Or.inr rfl)) (pgs_cons (pg_name (i := 5) sc_law.nd rfl (by first | exact Or.inl rfl | exact Or.inr rfl)) pgs_nil)))))
        (pss_cons (ps_set (i := 6) sc_law.nd rfl (by first | exact Or.inl rfl | exact Or.inr rfl) (pe_clm c_Play hr (by decide) (by rfl) (pa_cons pe_str (pa_cons (pv 3) pa_nil))))
        (pss_cons (ps_set (i := 7) sc_law.nd rfl (by first | exact Or.inl rfl | exact Or.inr rfl) (pe_cl c__law_led_right hr (by decide) (by rfl) (pa_cons (pv 1) (pa_cons pe_str (pa_cons (pv 4) (pa_cons (pv 5) (pa_cons (pv 6) (pa_cons (pe_cl c__law_draw hr (by decide) (by rfl) (pa_cons (pv 1) (pa_cons pe_int pa_nil))) pa_nil))))))))
        (pss_cons (ps_if (PW.pt (pw_or (pt_cmpR op_isN (pv 7) pe_non (nomark _)) (pw_or1 (pt_not (pt_val (pe_callB (cr_all rfl) (by rfl) T.z_all (by decide +kernel) (pa_cons (pe_lc (own := [("_law_items", 15)]) (g := gName 15) rfl sc_law.nd (pi_tup (pe_ix ix_tup (pv 7) pe_int (fun _ _ => rfl))) (blkOk_by (own := [("_law_items", 15)]) (N := N_law) (sc := defScope s_law) (by decide +kernel)) (fun _ _ _ _ _ => (pg_name (i := 15) sc_law.nd rfl (by first | exact Or.inl rfl | exact Or.inr rfl))) (fun _ _ _ _ _ => pts_nil) (fun _ _ _ _ _ => (pe_cmpR op_eq (pe_callB (call_lenK (K := K) rfl) (by rfl) T.z_len (by decide +kernel) (pa_cons (pv 15) pa_nil)) pe_int (nomark _)))) pa_nil))))))) (pss_one (ps_ret pe_bl)) pss_nil)
        (pss_cons (ps_asg (pe_cl c__law_woven hr (by decide) (by rfl) (pa_cons (pv 1) (pa_cons pe_str (pa_cons (pv 4) (pa_cons (pv 5) (pa_cons (pe_cl c__law_draw hr (by decide) (by rfl) (pa_cons (pv 1) (pa_cons pe_int pa_nil))) pa_nil)))))) (pg_tup rfl (pgs_cons (pg_name (i := 8) sc_law.nd rfl (by first | exact Or.inl rfl | exact Or.inr rfl)) (pgs_cons (pg_name (i := 9) sc_law.nd rfl (by first | exact Or.inl rfl | exact Or.inr rfl)) pgs_nil))))
        (pss_cons (ps_set (i := 10) sc_law.nd rfl (by first | exact Or.inl rfl | exact Or.inr rfl) (pe_cl c__law_left hr (by decide) (by rfl) (pa_cons (pe_ix ix_list (pv 9) (pe_un un_neg pe_int) (fun _ _ => rfl)) pa_nil)))
        (pss_one (ps_if (pt_cmpR op_gt (pe_callB call_len_seq (by rfl) T.z_len (by decide +kernel) (pa_cons (pv 10) pa_nil)) pe_int (nomark _)) (pss_cons (ps_par3 (i := 11) (j := 12) (l := 13) (by rfl) sc_law.nd rfl rfl rfl (by decide) (by decide) (by decide) rfl rfl rfl (pa_cons (pe_cl c__law_some hr (by decide) (by rfl) (pa_cons (pv 1) (pa_cons (pe_callTy call_list_of (by rfl) T.z_list (by decide +kernel) (pa_cons (pv 10) pa_nil)) pa_nil))) (pa_cons (pe_ix ix_list (pv 9) (pe_un un_neg pe_int) (fun _ _ => rfl)) (pa_cons pe_int pa_nil))) (by rfl))
        (pss_cons (ps_for PassesOwn.never rfl (pi_range1 (by rfl) T.z_range (pa_cons pe_int pa_nil)) (pg_name (i := 14) sc_law.nd rfl (by first | exact Or.inl rfl | exact Or.inr rfl)) (pss_one (ps_if (pt_cmpR op_notN (pe_ix ix_tup (pe_ix ix_tup (pv 12) pe_int (fun _ _ => rfl)) (pv 11) (fun _ _ => rfl)) pe_non (nomark _)) (pss_one (ps_par (i := 12) (j := 13) (by rfl) sc_law.nd rfl rfl (by decide) rfl rfl (pa_cons (pe_cl c__law_moved hr (by decide) (by rfl) (pa_cons pe_str (pa_cons (pv 4) (pa_cons (pv 5) (pa_cons (pv 12) (pa_cons (pv 11) pa_nil)))))) (pa_cons (pe_op op_add (pv 13) pe_int) pa_nil)) (by rfl))) pss_nil)))
        (pss_one (ps_if (PW.pt (pw_or (pt_cmpR op_notN (pe_ix ix_tup (pe_ix ix_tup (pv 12) pe_int (fun _ _ => rfl)) (pv 11) (fun _ _ => rfl)) pe_non (nomark _)) (pw_or1 (pt_not (pt_val (pe_cl c__law_is hr (by decide) (by rfl) (pa_cons (pe_cl c_run hr (by decide) (by rfl) (pa_cons (pv 6) (pa_cons (pe_op op_cat (pv 8) (pe_op op_repL (pe_lst (pa_cons (pv 11) pa_nil)) (pv 13))) pa_nil))) (pa_cons (pv 12) pa_nil)))))))) (pss_one (ps_ret pe_bl)) pss_nil)))) pss_nil)))))))))
        (pss_one (ps_ret pe_bl)))), ?_⟩
    refine ⟨_, rfl, a0, ns, rfl, ea, ln, fun H1 p c s1 hh1 => ?_⟩
    refine ⟨_, rfl, by omega, by omega, ?_⟩
    refine for_it walk_range (fun i σ H2 => ∃ o2 o3 o4 o5 o6 o7 o8 o9 o10 o11 o12 o13 o14, σ = [some (.ref a0), some (.ref p), o2, o3, o4, o5, o6, o7, o8, o9, o10, o11, o12, o13, o14, none] ∧ Hand H2 p c)
      ⟨none, none, none, none, none, none, none, none, none, none, none, none, none, rfl, hh1⟩ (fun _ _ _ _ _ => trivial) (fun i x σ H20 H2 hi z y => ?_) (fun σ H2 z => ?_)
    · obtain ⟨o2, o3, o4, o5, o6, o7, o8, o9, o10, o11, o12, o13, o14, rfl, h2⟩ := z
      obtain ⟨rfl, rfl⟩ := y
      -- inputs
      refine ⟨_, rfl, p, c, rfl, h2, fun H3 a3 r rows e3 er3 h1 h5 hv hnd k3 h3 => ⟨a3, _, rfl, sqT e3, rfl, _, _, rfl, _, _, rfl, _, _, rfl, rfl, ?_⟩⟩
      have st5 : ∀ S, Ok rows S → S.states.length ≤ 5 := fun S k => by rw [k.ls]; exact h5
      have hrp : ∀ {H' : Hp}, Keep p H3 H' → H' r = some (.tup (rows.map V.int)) := fun k => tupH er3 h3 k
      -- Play
      refine ⟨_, rfl, fun pa dx npa ndx nn => ⟨pa, r, rows, dx, rfl, upd_same, ?_, h1, h5, hv, hnd, fun H4 k4 hp4 => ⟨rfl, ?_⟩⟩⟩
      · rw [upd_ne (ne_of_none er3 npa), upd_ne (ne_of_none er3 ndx)]; exact er3
      have s4 := same_make npa ndx k4
      have h4 := h3.same s4
      have k34 : Keep p H3 H4 := Keep.of s4
      have hpp : ∀ {H' : Hp}, Keep p H4 H' → PlayAt K H' pa rows := fun k => hp4.keepH h4 k
      -- led right
      refine ⟨_, rfl, _, rfl, _, rfl, _, rfl, _, rfl, p, c, _, rfl, h4, by omega, by omega, fun m1 H5 hm1 k5 h5' => ?_⟩
      have k35 := k34.trans k5
      refine ⟨p, c, r, rows, pa, m1, rfl, h5', hrp k35, hpp k5, h1, h5, by omega, fun H6 v6 S6 r6 ok6 lf6 k6 h6 => ?_⟩
      have k46 := k5.trans k6
      have k36 := k34.trans k46
      obtain ⟨a6, c6, s6, t6, cvs6, svs6, tvs6, rfl, ha6, hc6, rc6, hs6, rs6, ht6, rt6⟩ := rpS r6
      have lt6 := rt6.len'
      have kt6 := ok6.lt
      refine ⟨_, rfl, rfl, _, rfl, ?_⟩
      rw [decide_eq_false (show ¬ V.ref a6 = V.non by simp)]
      refine iteF ⟨_, rfl, a6, _, 2, _, rfl, rfl, sqT ha6, atI_nat (j := 2) rfl, t6, rfl, ⟨_, sqT ht6⟩, fun D nD => lc_sel walk_tup (fun i => some (.bl true)) nD (fun H' s => sqT (s _ _ ht6)) (by omega) (fun i x H7 H8 Kp Kn hi s y kp kn => ?_) (fun H7 s7 e7 => ?_)⟩
      · obtain ⟨rfl, hx⟩ := y
        obtain ⟨u, hu, ru⟩ := rt6.getD (i := i) (by omega) []
        rw [hx] at hu
        obtain rfl := Option.some.inj hu
        obtain ⟨ta, rfl, hta⟩ := rpW (ru.same s)
        have l1 := told_all ok6 lf6 (gd_get S6.told i [] (by omega))
        refine ⟨rfl, yes ⟨_, rfl, ta, _, rfl, .inr (sqT hta), rfl, ?_⟩⟩
        rw [decide_eq_true (by rw [List.length_map, l1]; rfl)]
        exact kp _ _ (Same.refl _) rfl
      rw [sel_bl] at e7
      refine ⟨D, _, rfl, sqL e7, ?_⟩
      rw [all_sel fun _ _ => rfl]
      refine ⟨true, rfl, iteNT ?_⟩
      have h7 := h6.same s7
      have k47 := k46.trans (Keep.of s7)
      have k37 := k36.trans (Keep.of s7)
      -- woven
      refine ⟨_, rfl, _, rfl, _, rfl, _, rfl, p, c, _, rfl, h7, by omega, by omega, fun m2 H8 hm2 k8 h8 => ?_⟩
      have k38 := k37.trans k8
      refine ⟨p, c, r, rows, m2, rfl, h8, hrp k38, h1, h5, by omega, fun H9 a9 F G W svs e9 w9 lW k9 h9 => ⟨a9, _, rfl, sqT e9, rfl, _, _, rfl, _, _, rfl, rfl, ?_⟩⟩
      have k49 := (k47.trans k8).trans k9
      have k39 := k38.trans k9
      have val := w9.v
      have okW := runW_ok rows W
      obtain ⟨v, hv', rv⟩ := w9.last
      -- those left
      refine ⟨_, rfl, 1, rfl, G, svs, _, v, rfl, rfl, sqL w9.g, hv', v, runW rows W, rfl, rv, st5 _ okW, fun H10 l10 s10 e10 => ?_⟩
      have h10 := h9.same s10
      have w10 := w9.same s10
      have k410 := k49.trans (Keep.of s10)
      have k310 := k39.trans (Keep.of s10)
      refine ⟨_, rfl, l10, _, rfl, .inr (sqT e10), _, 0, rfl, rfl, _, rfl, ?_⟩
      rw [List.length_map]
      by_cases eL : (left (runW rows W)).length = 0
      · rw [decide_eq_false (show ¬ (0 : Int) < ((left (runW rows W)).length : Nat) by omega)]
        exact iteF ⟨_, _, _, _, _, _, _, _, _, _, _, _, _, rfl, h10⟩
      rw [decide_eq_true (show (0 : Int) < ((left (runW rows W)).length : Nat) by omega)]
      have ll5 : (left (runW rows W)).length ≤ 5 := Nat.le_trans (left_len okW) h5
      -- one, here, many
      refine iteT ⟨_, rfl, _, rfl, l10, _, rfl, .inr (sqT e10), fun L nL => ⟨p, c, L, _, rfl, h10.new nL, upd_same, (h10.ne nL).1, by rw [List.length_map]; omega, by rw [List.length_map]; omega, fun j u H11 hu k11 h11 => ?_⟩⟩
      obtain ⟨h0, hj, rfl⟩ := map_at hu
      have hm0 := List.mem_of_getElem? hj
      have hst := mem_left.mp hm0
      have hlt := left_lt okW hm0
      have k1011 := (Keep.of (same_new nL)).trans k11
      have w11 := w10.keep h10 k1011
      obtain ⟨v11, hv11, rv11⟩ := w11.last
      refine ⟨_, rfl, 1, rfl, G, svs, _, v11, rfl, rfl, sqL w11.g, hv11, _, _, _, rfl, ?_⟩
      have k411 := k410.trans k1011
      have k311 := k310.trans k1011
      have er11 := hrp k311
      have hp11 := hpp k411
      -- four turns
      refine ⟨_, rfl, by omega, by omega, ?_⟩
      refine for_it walk_range (fun n σ H12 => ∃ v12 o14, σ = [some (.ref a0), some (.ref p), some (.int (0 + (i : Int))), some (.ref r), some (.ref r), some (.int 0), some (.ref pa), some (.ref a6), some (.ref F), some (.ref G), some (.ref l10), some (vN h0), some v12, some (vN (soloN rows h0 n (runW rows W, 0)).2), o14, none] ∧ Same H11 H12 ∧ Rp H12 v12 (dS (soloN rows h0 n (runW rows W, 0)).1))
        ⟨v11, _, rfl, Same.refl _, rv11⟩ (fun _ _ _ _ _ => trivial) (fun n x σ H120 H12 hn z y => ?_) (fun σ H12 z => ?_)
      · obtain ⟨v12, o14, rfl, s12, r12⟩ := z
        obtain ⟨rfl, rfl⟩ := y
        obtain ⟨i1, i2, i3, i4⟩ := solo_inv val hlt n
        have okS : Ok rows (soloN rows h0 n (runW rows W, 0)).1 := by rw [i1]; exact runW_ok _ _
        have es : soloN rows h0 (n + 1) (runW rows W, 0) = soloStep rows h0 (soloN rows h0 n (runW rows W, 0)) := rfl
        generalize soloN rows h0 n (runW rows W, 0) = O at i1 i2 i3 i4 okS es r12 ⊢
        rw [es]
        obtain ⟨S, k⟩ := O
        dsimp only at i1 i2 i3 i4 okS es r12 ⊢
        obtain ⟨a, cc, s, t, cvs, svs0, tvs, rfl, ha, hc, rc, hs, rs, ht, rt⟩ := rpS r12
        obtain ⟨vst, hvst, rst⟩ := rs.getD (i := h0) (by rw [okS.ls]; exact hlt) none
        refine ⟨_, rfl, a, _, 1, _, rfl, rfl, sqT ha, atI_nat (j := 1) rfl, _, rfl, s, _, _, _, rfl, rfl, sqT hs, atI_nat hvst, rfl, _, rfl, ?_⟩
        rcases rpT rst with ⟨ec, rfl⟩ | ⟨w', b', a', ec, rfl, ha'⟩
        · refine iteNS rfl ⟨.ref a, some (.int (0 + (n : Int))), ?_, s12, ?_⟩
          · rw [show soloStep rows h0 (S, k) = (S, k) from if_pos ec]; rfl
          · rw [show soloStep rows h0 (S, k) = (S, k) from if_pos ec]; exact r12
        · have ec' : soloStep rows h0 (S, k) = (moved rows S h0, k + 1) := if_neg (by dsimp only; rw [ec]; simp)
          refine iteNN (by simp) ⟨_, rfl, _, rfl, _, rfl, _, rfl, r, rows, _, S, h0, rfl, s12 _ _ er11, r12, okS, h5, by rw [ec]; simp, fun H13 a13 s13 r13 => ⟨_, rfl, (k : Int), 1, rfl, rfl, _, _, rfl, .ref a13, some (.int (0 + (n : Int))), ?_, s12.trans s13, ?_⟩⟩
          · rw [ec']; rfl
          · rw [ec']; exact r13
      · obtain ⟨v12, o14, rfl, s12, r12⟩ := z
        obtain ⟨i1, i2, i3, i4⟩ := solo_inv val hlt 4
        have ov := solo_over val hlt
        have okS : Ok rows (soloN rows h0 4 (runW rows W, 0)).1 := by rw [i1]; exact runW_ok _ _
        rw [show Int.toNat 4 = 4 from rfl] at r12 ⊢
        generalize soloN rows h0 4 (runW rows W, 0) = O at i1 i2 i3 i4 okS ov r12 ⊢
        obtain ⟨S, k⟩ := O
        dsimp only at i1 i2 i3 i4 okS ov r12 ⊢
        have r12' := r12
        obtain ⟨a, cc, s, t, cvs, svs0, tvs, rfl, ha, hc, rc, hs, rs, ht, rt⟩ := rpS r12'
        obtain ⟨vst, hvst, rst⟩ := rs.getD (i := h0) (by rw [okS.ls]; exact hlt) none
        rw [ov] at rst
        obtain rfl := rst.non_inv
        refine ⟨_, rfl, a, _, 1, _, rfl, rfl, sqT ha, atI_nat (j := 1) rfl, _, rfl, s, _, _, _, rfl, rfl, sqT hs, atI_nat hvst, rfl, _, rfl, iteNS rfl ?_⟩
        -- run
        have w12 := w11.same s12
        refine ⟨_, rfl, _, rfl, _, rfl, line (by simp), fun l13 n13 => ⟨_, rfl, l13, vN h0, k, rfl, rfl, upd_same, by omega, fun H14 l14 s14 n14 e14 => ?_⟩⟩
        have s1214 := (same_new n13).trans s14
        refine ⟨F, l14, _, _, rfl, rfl, s1214 _ _ w12.f, e14, line (by rw [List.length_map, List.length_replicate]; omega), fun l15 n15 => ?_⟩
        have s15 := same_new (o := .lst (W.map vN ++ List.replicate k (vN h0))) n15
        have s1115 := s12.trans (s1214.trans s15)
        have e15 : (upd H14 l15 (.lst (W.map vN ++ List.replicate k (vN h0)))) l15 = some (.lst ((W ++ List.replicate k h0).map vN)) := by
          rw [upd_same, List.map_append, map_rep]
        refine ⟨pa, rows, l15, _, rfl, hp11.same s1115, .inl e15, i2, by rw [List.length_append, List.length_replicate]; omega, h1, h5, fun H16 a16 s16 r16 => ?_⟩
        rw [← i1] at r16
        refine ⟨_, rfl, _, _, rfl, .inl ⟨dS S, .succ (lv_dS okS h5), r16, r12.same ((s1214.trans s15).trans s16)⟩, fun H17 s17 => ⟨true, rfl, iteNT ?_⟩⟩
        exact ⟨_, _, _, _, _, _, _, _, _, _, _, _, _, rfl, h11.same ((s1115.trans s16).trans s17)⟩
    · exact q _
end
end Nm


set_option Elab.async false
set_option linter.all false
set_option maxRecDepth 100000
set_option maxHeartbeats 0
namespace Nm
open PySem PySem.Spec PyProof.Rows L2
/-! ### the head: what the top leaves, by names -/
def d_is_integer : He.DefD := ⟨("is_integer", none), "is_integer", "is_integer", defArgs s_is_integer, defBody s_is_integer, defScope s_is_integer, [], []⟩
def d_is_within : He.DefD := ⟨("is_within", none), "is_within", "is_within", defArgs s_is_within, defBody s_is_within, defScope s_is_within, [], []⟩
def d_is_below : He.DefD := ⟨("is_below", none), "is_below", "is_below", defArgs s_is_below, defBody s_is_below, defScope s_is_below, [], []⟩
def d_is_sized : He.DefD := ⟨("is_sized", none), "is_sized", "is_sized", defArgs s_is_sized, defBody s_is_sized, defScope s_is_sized, [], []⟩
def d_is_listed : He.DefD := ⟨("is_listed", none), "is_listed", "is_listed", defArgs s_is_listed, defBody s_is_listed, defScope s_is_listed, [], []⟩
def d_replaced : He.DefD := ⟨("replaced", none), "replaced", "replaced", defArgs s_replaced, defBody s_replaced, defScope s_replaced, [], []⟩
def d_is_value : He.DefD := ⟨("is_value", none), "is_value", "is_value", defArgs s_is_value, defBody s_is_value, defScope s_is_value, [], []⟩
def d_is_row_of : He.DefD := ⟨("is_row_of", none), "is_row_of", "is_row_of", defArgs s_is_row_of, defBody s_is_row_of, defScope s_is_row_of, [], []⟩
def d_are_inputs : He.DefD := ⟨("are_inputs", none), "are_inputs", "are_inputs", defArgs s_are_inputs, defBody s_are_inputs, defScope s_are_inputs, [], []⟩
def d_is_hand : He.DefD := ⟨("is_hand", none), "is_hand", "is_hand", defArgs s_is_hand, defBody s_is_hand, defScope s_is_hand, [], []⟩
def d_check_hand : He.DefD := ⟨("check_hand", none), "check_hand", "check_hand", defArgs s_check_hand, defBody s_check_hand, defScope s_check_hand, [], []⟩
def d_top_cell : He.DefD := ⟨("top_cell", none), "top_cell", "top_cell", defArgs s_top_cell, defBody s_top_cell, defScope s_top_cell, [], []⟩
def d_top_state : He.DefD := ⟨("top_state", none), "top_state", "top_state", defArgs s_top_state, defBody s_top_state, defScope s_top_state, [], []⟩
def d_top_next : He.DefD := ⟨("top_next", none), "top_next", "top_next", defArgs s_top_next, defBody s_top_next, defScope s_top_next, [], []⟩
def d_wish_by : He.DefD := ⟨("wish_by", none), "wish_by", "wish_by", defArgs s_wish_by, defBody s_wish_by, defScope s_wish_by, [], []⟩
def d_after_names : He.DefD := ⟨("after_names", none), "after_names", "after_names", defArgs s_after_names, defBody s_after_names, defScope s_after_names, [], []⟩
def d_top_after : He.DefD := ⟨("top_after", none), "top_after", "top_after", defArgs s_top_after, defBody s_top_after, defScope s_top_after, [], []⟩
def d_cell_of : He.DefD := ⟨("cell_of", none), "cell_of", "cell_of", defArgs s_cell_of, defBody s_cell_of, defScope s_cell_of, [], []⟩
def d_state_of : He.DefD := ⟨("state_of", none), "state_of", "state_of", defArgs s_state_of, defBody s_state_of, defScope s_state_of, [], []⟩
def d_next_of : He.DefD := ⟨("next_of", none), "next_of", "next_of", defArgs s_next_of, defBody s_next_of, defScope s_next_of, [], []⟩
def d_after_of : He.DefD := ⟨("after_of", none), "after_of", "after_of", defArgs s_after_of, defBody s_after_of, defScope s_after_of, [], []⟩
def d_begun : He.DefD := ⟨("begun", none), "begun", "begun", defArgs s_begun, defBody s_begun, defScope s_begun, [], []⟩
def d_first_standing : He.DefD := ⟨("first_standing", none), "first_standing", "first_standing", defArgs s_first_standing, defBody s_first_standing, defScope s_first_standing, [], []⟩
def d_movers : He.DefD := ⟨("movers", none), "movers", "movers", defArgs s_movers, defBody s_movers, defScope s_movers, [], []⟩
def d_can_step : He.DefD := ⟨("can_step", none), "can_step", "can_step", defArgs s_can_step, defBody s_can_step, defScope s_can_step, [], []⟩
def d_after_step : He.DefD := ⟨("after_step", none), "after_step", "after_step", defArgs s_after_step, defBody s_after_step, defScope s_after_step, [], []⟩
def d_check_step : He.DefD := ⟨("check_step", none), "check_step", "check_step", defArgs s_check_step, defBody s_check_step, defScope s_check_step, [], []⟩
def d_step : He.DefD := ⟨("step", none), "step", "step", defArgs s_step, defBody s_step, defScope s_step, [], []⟩
def d_next_step : He.DefD := ⟨("next_step", none), "next_step", "next_step", defArgs s_next_step, defBody s_next_step, defScope s_next_step, [], []⟩
def d_standings_of : He.DefD := ⟨("standings_of", none), "standings_of", "standings_of", defArgs s_standings_of, defBody s_standings_of, defScope s_standings_of, [], []⟩
def d_run : He.DefD := ⟨("run", none), "run", "run", defArgs s_run, defBody s_run, defScope s_run, [], []⟩
def d_run_out : He.DefD := ⟨("run_out", none), "run_out", "run_out", defArgs s_run_out, defBody s_run_out, defScope s_run_out, [], []⟩
def d_is_came : He.DefD := ⟨("is_came", none), "is_came", "is_came", defArgs s_is_came, defBody s_is_came, defScope s_is_came, [], []⟩
def d_is_item : He.DefD := ⟨("is_item", none), "is_item", "is_item", defArgs s_is_item, defBody s_is_item, defScope s_is_item, [], []⟩
def d_most_told : He.DefD := ⟨("most_told", none), "most_told", "most_told", defArgs s_most_told, defBody s_most_told, defScope s_most_told, [], []⟩
def d_is_told : He.DefD := ⟨("is_told", none), "is_told", "is_told", defArgs s_is_told, defBody s_is_told, defScope s_is_told, [], []⟩
def d_flat : He.DefD := ⟨("flat", none), "flat", "flat", defArgs s_flat, defBody s_flat, defScope s_flat, [], []⟩
def d_name_fault : He.DefD := ⟨("name_fault", none), "name_fault", "name_fault", defArgs s_name_fault, defBody s_name_fault, defScope s_name_fault, [], []⟩
def d_raw_fault : He.DefD := ⟨("raw_fault", none), "raw_fault", "raw_fault", defArgs s_raw_fault, defBody s_raw_fault, defScope s_raw_fault, [], []⟩
def d_fault : He.DefD := ⟨("fault", none), "fault", "fault", defArgs s_fault, defBody s_fault, defScope s_fault, [], []⟩
def d__law_hand : He.DefD := ⟨("_law_hand", none), "_law_hand", "_law_hand", defArgs s__law_hand, defBody s__law_hand, defScope s__law_hand, [], []⟩
def d__law_draw : He.DefD := ⟨("_law_draw", none), "_law_draw", "_law_draw", defArgs s__law_draw, defBody s__law_draw, defScope s__law_draw, [], []⟩
def d__law_some : He.DefD := ⟨("_law_some", none), "_law_some", "_law_some", defArgs s__law_some, defBody s__law_some, defScope s__law_some, [], []⟩
def d__law_shuffled : He.DefD := ⟨("_law_shuffled", none), "_law_shuffled", "_law_shuffled", defArgs s__law_shuffled, defBody s__law_shuffled, defScope s__law_shuffled, [], []⟩
def d__law_is : He.DefD := ⟨("_law_is", none), "_law_is", "_law_is", defArgs s__law_is, defBody s__law_is, defScope s__law_is, [], []⟩
def d__law_inputs : He.DefD := ⟨("_law_inputs", none), "_law_inputs", "_law_inputs", defArgs s__law_inputs, defBody s__law_inputs, defScope s__law_inputs, [], []⟩
def d__law_begin : He.DefD := ⟨("_law_begin", none), "_law_begin", "_law_begin", defArgs s__law_begin, defBody s__law_begin, defScope s__law_begin, [], []⟩
def d__law_next : He.DefD := ⟨("_law_next", none), "_law_next", "_law_next", defArgs s__law_next, defBody s__law_next, defScope s__law_next, [], []⟩
def d__law_name : He.DefD := ⟨("_law_name", none), "_law_name", "_law_name", defArgs s__law_name, defBody s__law_name, defScope s__law_name, [], []⟩
def d__law_moved : He.DefD := ⟨("_law_moved", none), "_law_moved", "_law_moved", defArgs s__law_moved, defBody s__law_moved, defScope s__law_moved, [], []⟩
def d__law_left : He.DefD := ⟨("_law_left", none), "_law_left", "_law_left", defArgs s__law_left, defBody s__law_left, defScope s__law_left, [], []⟩
def d__law_woven : He.DefD := ⟨("_law_woven", none), "_law_woven", "_law_woven", defArgs s__law_woven, defBody s__law_woven, defScope s__law_woven, [], []⟩
def d__law_whole : He.DefD := ⟨("_law_whole", none), "_law_whole", "_law_whole", defArgs s__law_whole, defBody s__law_whole, defScope s__law_whole, [], []⟩
def d__law_came : He.DefD := ⟨("_law_came", none), "_law_came", "_law_came", defArgs s__law_came, defBody s__law_came, defScope s__law_came, [], []⟩
def d__law_all : He.DefD := ⟨("_law_all", none), "_law_all", "_law_all", defArgs s__law_all, defBody s__law_all, defScope s__law_all, [], []⟩
def d__law_fault : He.DefD := ⟨("_law_fault", none), "_law_fault", "_law_fault", defArgs s__law_fault, defBody s__law_fault, defScope s__law_fault, [], []⟩
def d__law_led_right : He.DefD := ⟨("_law_led_right", none), "_law_led_right", "_law_led_right", defArgs s__law_led_right, defBody s__law_led_right, defScope s__law_led_right, [], []⟩
def d_law : He.DefD := ⟨("law", none), "law", "law", defArgs s_law, defBody s_law, defScope s_law, [], []⟩
def d_Play : He.DefD := ⟨("Play", some "__init__"), "__init__", "Play.__init__", defArgs s_Play, defBody s_Play, defScope s_Play, [], []⟩
def fn0 : List He.DefD := [d_is_integer, d_is_within, d_is_below, d_is_sized, d_is_listed, d_replaced, d_is_value, d_is_row_of, d_are_inputs, d_is_hand, d_check_hand, d_top_cell, d_top_state, d_top_next, d_wish_by, d_after_names, d_top_after, d_cell_of, d_state_of, d_next_of, d_after_of, d_begun, d_first_standing, d_movers, d_can_step, d_after_step, d_check_step, d_step, d_next_step, d_standings_of]
def fn1 : List He.DefD := [d_run, d_run_out, d_is_came, d_is_item, d_most_told, d_is_told, d_flat, d_name_fault, d_raw_fault, d_fault, d__law_hand, d__law_draw, d__law_some, d__law_shuffled, d__law_is, d__law_inputs, d__law_begin, d__law_next, d__law_name, d__law_moved, d__law_left, d__law_woven, d__law_whole, d__law_came, d__law_all, d__law_fault, d__law_led_right, d_law, d_Play]
def fn : List He.DefD := fn0 ++ (fn1)
def fa0 : List He.Fa := [.glo "is_integer", .glo "is_within", .glo "is_below", .glo "is_sized", .glo "is_listed", .glo "replaced", .glo "is_value", .glo "is_row_of", .glo "are_inputs", .glo "is_hand", .glo "check_hand", .glo "top_cell", .glo "top_state", .glo "top_next", .glo "wish_by", .glo "after_names", .glo "top_after", .glo "cell_of", .glo "state_of", .glo "next_of", .glo "after_of", .glo "begun", .glo "first_standing", .glo "movers", .glo "can_step", .glo "after_step", .glo "check_step", .glo "step", .glo "next_step", .glo "standings_of"]
def fa1 : List He.Fa := [.glo "run", .glo "run_out", .glo "is_came", .glo "is_item", .glo "most_told", .glo "is_told", .glo "flat", .glo "name_fault", .glo "raw_fault", .glo "fault", .glo "_law_hand", .glo "_law_draw", .glo "_law_some", .glo "_law_shuffled", .glo "_law_is", .glo "_law_inputs", .glo "_law_begin", .glo "_law_next", .glo "_law_name", .glo "_law_moved", .glo "_law_left", .glo "_law_woven", .glo "_law_whole", .glo "_law_came", .glo "_law_all", .glo "_law_fault", .glo "_law_led_right", .glo "law", .glo "Play", .glo "MANNERS"]
def fa2 : List He.Fa := [.cls "Play", .noat "Play" "kind", .noat "Play" "inputs", .noat "Play" "rows", .mkr "Play", .int "MOST_HANDS" 5, .int "MOST_VALUE" 1000, .int "MOST_NUMBER" 100000000000000000000, .str "LEVELS" "levels", .str "NAMES" "names", .str "NEAR" "near", .str "CHAIN" "chain", .str "PUT" "put", .str "SEE" "see", .free "len", .free "isinstance", .free "all", .free "any", .free "tuple", .free "list", .free "set", .free "sorted", .free "range", .free "enumerate", .free "zip", .free "int", .free "abs", .free "bool", .free "str", .free "dict"]
def fa : List He.Fa := fa0 ++ (fa1 ++ (fa2))
def tabs (K : PySem.W.Frag) : Bool := He.tupB K "MANNERS" [.str "sweep", .str "twice", .str "borrow"]
theorem fx {K : PySem.W.Frag} {h : Heap} {mg : Str → Option Value} (X : K.In h) (G : h.Ns mainGlobals mg) (ht : tabs K = true) (c : He.SaysD fa fn K) : Fx K mg where
  z_len := He.free_ok X G (c.fact 74 (f := .free "len") rfl)
  z_isinstance := He.free_ok X G (c.fact 75 (f := .free "isinstance") rfl)
  z_all := He.free_ok X G (c.fact 76 (f := .free "all") rfl)
  z_any := He.free_ok X G (c.fact 77 (f := .free "any") rfl)
  z_tuple := He.free_ok X G (c.fact 78 (f := .free "tuple") rfl)
  z_list := He.free_ok X G (c.fact 79 (f := .free "list") rfl)
  z_set := He.free_ok X G (c.fact 80 (f := .free "set") rfl)
  z_sorted := He.free_ok X G (c.fact 81 (f := .free "sorted") rfl)
  z_range := He.free_ok X G (c.fact 82 (f := .free "range") rfl)
  z_enumerate := He.free_ok X G (c.fact 83 (f := .free "enumerate") rfl)
  z_zip := He.free_ok X G (c.fact 84 (f := .free "zip") rfl)
  z_int := He.free_ok X G (c.fact 85 (f := .free "int") rfl)
  z_abs := He.free_ok X G (c.fact 86 (f := .free "abs") rfl)
  z_bool := He.free_ok X G (c.fact 87 (f := .free "bool") rfl)
  z_str := He.free_ok X G (c.fact 88 (f := .free "str") rfl)
  z_dict := He.free_ok X G (c.fact 89 (f := .free "dict") rfl)
  m_MOST_HANDS := by
    obtain ⟨t, e⟩ := He.int_ok X G (c.fact 65 (f := .int "MOST_HANDS" 5) rfl)
    exact ⟨_, e, t, rfl⟩
  m_MOST_VALUE := by
    obtain ⟨t, e⟩ := He.int_ok X G (c.fact 66 (f := .int "MOST_VALUE" 1000) rfl)
    exact ⟨_, e, t, rfl⟩
  m_MOST_NUMBER := by
    obtain ⟨t, e⟩ := He.int_ok X G (c.fact 67 (f := .int "MOST_NUMBER" 100000000000000000000) rfl)
    exact ⟨_, e, t, rfl⟩
  m_LEVELS := by
    obtain ⟨t, e⟩ := He.str_ok X G (c.fact 68 (f := .str "LEVELS" "levels") rfl)
    exact ⟨_, e, t, rfl⟩
  m_NAMES := by
    obtain ⟨t, e⟩ := He.str_ok X G (c.fact 69 (f := .str "NAMES" "names") rfl)
    exact ⟨_, e, t, rfl⟩
  m_NEAR := by
    obtain ⟨t, e⟩ := He.str_ok X G (c.fact 70 (f := .str "NEAR" "near") rfl)
    exact ⟨_, e, t, rfl⟩
  m_CHAIN := by
    obtain ⟨t, e⟩ := He.str_ok X G (c.fact 71 (f := .str "CHAIN" "chain") rfl)
    exact ⟨_, e, t, rfl⟩
  m_PUT := by
    obtain ⟨t, e⟩ := He.str_ok X G (c.fact 72 (f := .str "PUT" "put") rfl)
    exact ⟨_, e, t, rfl⟩
  m_SEE := by
    obtain ⟨t, e⟩ := He.str_ok X G (c.fact 73 (f := .str "SEE" "see") rfl)
    exact ⟨_, e, t, rfl⟩
  m_MANNERS := ⟨_, He.glo_ok X G (c.fact 59 (f := .glo "MANNERS") rfl), rfl⟩
  t_MANNERS := fun H => He.tupB_ok ht H
  cl := He.cls_ok (c.fact 60 (f := .cls "Play") rfl)
  nK := He.noat_ok (c.fact 61 (f := .noat "Play" "kind") rfl)
  nI := He.noat_ok (c.fact 62 (f := .noat "Play" "inputs") rfl)
  nR := He.noat_ok (c.fact 63 (f := .noat "Play" "rows") rfl)
theorem at_of {K : PySem.W.Frag} {mg : Str → Option Value} {x : Str} {st : Stmt} {ps : List Str} (hd : ∃ fd, FunD K x x (defArgs st) (defBody st) (defScope st) [] [] (He.ga K x) fd) (hg : mg x = some (.ref (He.ga K x)))
    (hb : ∀ (kV doc pm : Value) (an : Option Addr) (cdv ct : Value) (us : List Value), us.length = ps.length → bindArgs (PySem.W.fnOf x x (defArgs st) (defBody st) (defScope st) .none kV doc pm an cdv ct) ⟨us, []⟩ = pure (ps.zip us)) : At K mg x st ps := by
  obtain ⟨fd, F⟩ := hd
  exact ⟨_, fd, F, hg, F.bindsN hb⟩
theorem facts {P : Program} {w : World} {K : PySem.W.Frag} {h : Heap} {mg : Str → Option Value} {f : Addr} (X : K.In h) (G : h.Ns mainGlobals mg) (hfa : mg ("law" : Str) = some (.ref f)) (ht : tabs K = true) (c : He.SaysD fa fn K) :
    ∃ fd : FuncData, (∀ (s : Shared) (v : Value), BindsTo s fd ⟨[v], []⟩ [("_law_script", v)]) ∧ ∀ base : Heap, K.In base → base.Ns mainGlobals mg → FnOk P w K mg base CX0 10 f fd ["_law_script"] (splaw K) := by
  have T := fx X G ht c
  have a_is_integer : At K mg "is_integer" s_is_integer p_is_integer := at_of (c.def_ 0 (d := d_is_integer) rfl) (He.glo_ok X G (c.fact 0 (f := .glo "is_integer") rfl)) (fun _ _ _ _ _ _ us hl => match us, hl with | [_], _ => rfl)
  have a_is_within : At K mg "is_within" s_is_within p_is_within := at_of (c.def_ 1 (d := d_is_within) rfl) (He.glo_ok X G (c.fact 1 (f := .glo "is_within") rfl)) (fun _ _ _ _ _ _ us hl => match us, hl with | [_, _, _], _ => rfl)
  have a_is_below : At K mg "is_below" s_is_below p_is_below := at_of (c.def_ 2 (d := d_is_below) rfl) (He.glo_ok X G (c.fact 2 (f := .glo "is_below") rfl)) (fun _ _ _ _ _ _ us hl => match us, hl with | [_, _], _ => rfl)
  have a_is_sized : At K mg "is_sized" s_is_sized p_is_sized := at_of (c.def_ 3 (d := d_is_sized) rfl) (He.glo_ok X G (c.fact 3 (f := .glo "is_sized") rfl)) (fun _ _ _ _ _ _ us hl => match us, hl with | [_, _, _], _ => rfl)
  have a_is_listed : At K mg "is_listed" s_is_listed p_is_listed := at_of (c.def_ 4 (d := d_is_listed) rfl) (He.glo_ok X G (c.fact 4 (f := .glo "is_listed") rfl)) (fun _ _ _ _ _ _ us hl => match us, hl with | [_], _ => rfl)
  have a_replaced : At K mg "replaced" s_replaced p_replaced := at_of (c.def_ 5 (d := d_replaced) rfl) (He.glo_ok X G (c.fact 5 (f := .glo "replaced") rfl)) (fun _ _ _ _ _ _ us hl => match us, hl with | [_, _, _], _ => rfl)
  have a_is_value : At K mg "is_value" s_is_value p_is_value := at_of (c.def_ 6 (d := d_is_value) rfl) (He.glo_ok X G (c.fact 6 (f := .glo "is_value") rfl)) (fun _ _ _ _ _ _ us hl => match us, hl with | [_], _ => rfl)
  have a_is_row_of : At K mg "is_row_of" s_is_row_of p_is_row_of := at_of (c.def_ 7 (d := d_is_row_of) rfl) (He.glo_ok X G (c.fact 7 (f := .glo "is_row_of") rfl)) (fun _ _ _ _ _ _ us hl => match us, hl with | [_, _], _ => rfl)
  have a_are_inputs : At K mg "are_inputs" s_are_inputs p_are_inputs := at_of (c.def_ 8 (d := d_are_inputs) rfl) (He.glo_ok X G (c.fact 8 (f := .glo "are_inputs") rfl)) (fun _ _ _ _ _ _ us hl => match us, hl with | [_, _], _ => rfl)
  have a_is_hand : At K mg "is_hand" s_is_hand p_is_hand := at_of (c.def_ 9 (d := d_is_hand) rfl) (He.glo_ok X G (c.fact 9 (f := .glo "is_hand") rfl)) (fun _ _ _ _ _ _ us hl => match us, hl with | [_, _], _ => rfl)
  have a_check_hand : At K mg "check_hand" s_check_hand p_check_hand := at_of (c.def_ 10 (d := d_check_hand) rfl) (He.glo_ok X G (c.fact 10 (f := .glo "check_hand") rfl)) (fun _ _ _ _ _ _ us hl => match us, hl with | [_, _], _ => rfl)
  have a_top_cell : At K mg "top_cell" s_top_cell p_top_cell := at_of (c.def_ 11 (d := d_top_cell) rfl) (He.glo_ok X G (c.fact 11 (f := .glo "top_cell") rfl)) (fun _ _ _ _ _ _ us hl => match us, hl with | [_, _], _ => rfl)
  have a_top_state : At K mg "top_state" s_top_state p_top_state := at_of (c.def_ 12 (d := d_top_state) rfl) (He.glo_ok X G (c.fact 12 (f := .glo "top_state") rfl)) (fun _ _ _ _ _ _ us hl => match us, hl with | [_, _], _ => rfl)
  have a_top_next : At K mg "top_next" s_top_next p_top_next := at_of (c.def_ 13 (d := d_top_next) rfl) (He.glo_ok X G (c.fact 13 (f := .glo "top_next") rfl)) (fun _ _ _ _ _ _ us hl => match us, hl with | [_, _, _], _ => rfl)
  have a_wish_by : At K mg "wish_by" s_wish_by p_wish_by := at_of (c.def_ 14 (d := d_wish_by) rfl) (He.glo_ok X G (c.fact 14 (f := .glo "wish_by") rfl)) (fun _ _ _ _ _ _ us hl => match us, hl with | [_, _], _ => rfl)
  have a_after_names : At K mg "after_names" s_after_names p_after_names := at_of (c.def_ 15 (d := d_after_names) rfl) (He.glo_ok X G (c.fact 15 (f := .glo "after_names") rfl)) (fun _ _ _ _ _ _ us hl => match us, hl with | [_, _, _, _], _ => rfl)
  have a_top_after : At K mg "top_after" s_top_after p_top_after := at_of (c.def_ 16 (d := d_top_after) rfl) (He.glo_ok X G (c.fact 16 (f := .glo "top_after") rfl)) (fun _ _ _ _ _ _ us hl => match us, hl with | [_, _, _, _], _ => rfl)
  have a_cell_of : At K mg "cell_of" s_cell_of p_cell_of := at_of (c.def_ 17 (d := d_cell_of) rfl) (He.glo_ok X G (c.fact 17 (f := .glo "cell_of") rfl)) (fun _ _ _ _ _ _ us hl => match us, hl with | [_, _], _ => rfl)
  have a_state_of : At K mg "state_of" s_state_of p_state_of := at_of (c.def_ 18 (d := d_state_of) rfl) (He.glo_ok X G (c.fact 18 (f := .glo "state_of") rfl)) (fun _ _ _ _ _ _ us hl => match us, hl with | [_, _], _ => rfl)
  have a_next_of : At K mg "next_of" s_next_of p_next_of := at_of (c.def_ 19 (d := d_next_of) rfl) (He.glo_ok X G (c.fact 19 (f := .glo "next_of") rfl)) (fun _ _ _ _ _ _ us hl => match us, hl with | [_, _, _], _ => rfl)
  have a_after_of : At K mg "after_of" s_after_of p_after_of := at_of (c.def_ 20 (d := d_after_of) rfl) (He.glo_ok X G (c.fact 20 (f := .glo "after_of") rfl)) (fun _ _ _ _ _ _ us hl => match us, hl with | [_, _, _, _], _ => rfl)
  have a_begun : At K mg "begun" s_begun p_begun := at_of (c.def_ 21 (d := d_begun) rfl) (He.glo_ok X G (c.fact 21 (f := .glo "begun") rfl)) (fun _ _ _ _ _ _ us hl => match us, hl with | [_], _ => rfl)
  have a_first_standing : At K mg "first_standing" s_first_standing p_first_standing := at_of (c.def_ 22 (d := d_first_standing) rfl) (He.glo_ok X G (c.fact 22 (f := .glo "first_standing") rfl)) (fun _ _ _ _ _ _ us hl => match us, hl with | [_], _ => rfl)
  have a_movers : At K mg "movers" s_movers p_movers := at_of (c.def_ 23 (d := d_movers) rfl) (He.glo_ok X G (c.fact 23 (f := .glo "movers") rfl)) (fun _ _ _ _ _ _ us hl => match us, hl with | [_], _ => rfl)
  have a_can_step : At K mg "can_step" s_can_step p_can_step := at_of (c.def_ 24 (d := d_can_step) rfl) (He.glo_ok X G (c.fact 24 (f := .glo "can_step") rfl)) (fun _ _ _ _ _ _ us hl => match us, hl with | [_, _], _ => rfl)
  have a_after_step : At K mg "after_step" s_after_step p_after_step := at_of (c.def_ 25 (d := d_after_step) rfl) (He.glo_ok X G (c.fact 25 (f := .glo "after_step") rfl)) (fun _ _ _ _ _ _ us hl => match us, hl with | [_, _, _], _ => rfl)
  have a_check_step : At K mg "check_step" s_check_step p_check_step := at_of (c.def_ 26 (d := d_check_step) rfl) (He.glo_ok X G (c.fact 26 (f := .glo "check_step") rfl)) (fun _ _ _ _ _ _ us hl => match us, hl with | [_, _, _], _ => rfl)
  have a_step : At K mg "step" s_step p_step := at_of (c.def_ 27 (d := d_step) rfl) (He.glo_ok X G (c.fact 27 (f := .glo "step") rfl)) (fun _ _ _ _ _ _ us hl => match us, hl with | [_, _, _], _ => rfl)
  have a_next_step : At K mg "next_step" s_next_step p_next_step := at_of (c.def_ 28 (d := d_next_step) rfl) (He.glo_ok X G (c.fact 28 (f := .glo "next_step") rfl)) (fun _ _ _ _ _ _ us hl => match us, hl with | [_, _, _], _ => rfl)
  have a_standings_of : At K mg "standings_of" s_standings_of p_standings_of := at_of (c.def_ 29 (d := d_standings_of) rfl) (He.glo_ok X G (c.fact 29 (f := .glo "standings_of") rfl)) (fun _ _ _ _ _ _ us hl => match us, hl with | [_, _], _ => rfl)
  have a_run : At K mg "run" s_run p_run := at_of (c.def_ 30 (d := d_run) rfl) (He.glo_ok X G (c.fact 30 (f := .glo "run") rfl)) (fun _ _ _ _ _ _ us hl => match us, hl with | [_, _], _ => rfl)
  have a_run_out : At K mg "run_out" s_run_out p_run_out := at_of (c.def_ 31 (d := d_run_out) rfl) (He.glo_ok X G (c.fact 31 (f := .glo "run_out") rfl)) (fun _ _ _ _ _ _ us hl => match us, hl with | [_, _], _ => rfl)
  have a_is_came : At K mg "is_came" s_is_came p_is_came := at_of (c.def_ 32 (d := d_is_came) rfl) (He.glo_ok X G (c.fact 32 (f := .glo "is_came") rfl)) (fun _ _ _ _ _ _ us hl => match us, hl with | [_, _], _ => rfl)
  have a_is_item : At K mg "is_item" s_is_item p_is_item := at_of (c.def_ 33 (d := d_is_item) rfl) (He.glo_ok X G (c.fact 33 (f := .glo "is_item") rfl)) (fun _ _ _ _ _ _ us hl => match us, hl with | [_, _], _ => rfl)
  have a_most_told : At K mg "most_told" s_most_told p_most_told := at_of (c.def_ 34 (d := d_most_told) rfl) (He.glo_ok X G (c.fact 34 (f := .glo "most_told") rfl)) (fun _ _ _ _ _ _ us hl => match us, hl with | [_, _], _ => rfl)
  have a_is_told : At K mg "is_told" s_is_told p_is_told := at_of (c.def_ 35 (d := d_is_told) rfl) (He.glo_ok X G (c.fact 35 (f := .glo "is_told") rfl)) (fun _ _ _ _ _ _ us hl => match us, hl with | [_, _], _ => rfl)
  have a_flat : At K mg "flat" s_flat p_flat := at_of (c.def_ 36 (d := d_flat) rfl) (He.glo_ok X G (c.fact 36 (f := .glo "flat") rfl)) (fun _ _ _ _ _ _ us hl => match us, hl with | [_], _ => rfl)
  have a_name_fault : At K mg "name_fault" s_name_fault p_name_fault := at_of (c.def_ 37 (d := d_name_fault) rfl) (He.glo_ok X G (c.fact 37 (f := .glo "name_fault") rfl)) (fun _ _ _ _ _ _ us hl => match us, hl with | [_, _, _], _ => rfl)
  have a_raw_fault : At K mg "raw_fault" s_raw_fault p_raw_fault := at_of (c.def_ 38 (d := d_raw_fault) rfl) (He.glo_ok X G (c.fact 38 (f := .glo "raw_fault") rfl)) (fun _ _ _ _ _ _ us hl => match us, hl with | [_, _, _], _ => rfl)
  have a_fault : At K mg "fault" s_fault p_fault := at_of (c.def_ 39 (d := d_fault) rfl) (He.glo_ok X G (c.fact 39 (f := .glo "fault") rfl)) (fun _ _ _ _ _ _ us hl => match us, hl with | [_, _, _], _ => rfl)
  have a__law_hand : At K mg "_law_hand" s__law_hand p__law_hand := at_of (c.def_ 40 (d := d__law_hand) rfl) (He.glo_ok X G (c.fact 40 (f := .glo "_law_hand") rfl)) (fun _ _ _ _ _ _ us hl => match us, hl with | [_], _ => rfl)
  have a__law_draw : At K mg "_law_draw" s__law_draw p__law_draw := at_of (c.def_ 41 (d := d__law_draw) rfl) (He.glo_ok X G (c.fact 41 (f := .glo "_law_draw") rfl)) (fun _ _ _ _ _ _ us hl => match us, hl with | [_, _], _ => rfl)
  have a__law_some : At K mg "_law_some" s__law_some p__law_some := at_of (c.def_ 42 (d := d__law_some) rfl) (He.glo_ok X G (c.fact 42 (f := .glo "_law_some") rfl)) (fun _ _ _ _ _ _ us hl => match us, hl with | [_, _], _ => rfl)
  have a__law_shuffled : At K mg "_law_shuffled" s__law_shuffled p__law_shuffled := at_of (c.def_ 43 (d := d__law_shuffled) rfl) (He.glo_ok X G (c.fact 43 (f := .glo "_law_shuffled") rfl)) (fun _ _ _ _ _ _ us hl => match us, hl with | [_, _], _ => rfl)
  have a__law_is : At K mg "_law_is" s__law_is p__law_is := at_of (c.def_ 44 (d := d__law_is) rfl) (He.glo_ok X G (c.fact 44 (f := .glo "_law_is") rfl)) (fun _ _ _ _ _ _ us hl => match us, hl with | [_, _], _ => rfl)
  have a__law_inputs : At K mg "_law_inputs" s__law_inputs p__law_inputs := at_of (c.def_ 45 (d := d__law_inputs) rfl) (He.glo_ok X G (c.fact 45 (f := .glo "_law_inputs") rfl)) (fun _ _ _ _ _ _ us hl => match us, hl with | [_, _], _ => rfl)
  have a__law_begin : At K mg "_law_begin" s__law_begin p__law_begin := at_of (c.def_ 46 (d := d__law_begin) rfl) (He.glo_ok X G (c.fact 46 (f := .glo "_law_begin") rfl)) (fun _ _ _ _ _ _ us hl => match us, hl with | [_, _], _ => rfl)
  have a__law_next : At K mg "_law_next" s__law_next p__law_next := at_of (c.def_ 47 (d := d__law_next) rfl) (He.glo_ok X G (c.fact 47 (f := .glo "_law_next") rfl)) (fun _ _ _ _ _ _ us hl => match us, hl with | [_, _], _ => rfl)
  have a__law_name : At K mg "_law_name" s__law_name p__law_name := at_of (c.def_ 48 (d := d__law_name) rfl) (He.glo_ok X G (c.fact 48 (f := .glo "_law_name") rfl)) (fun _ _ _ _ _ _ us hl => match us, hl with | [_, _, _, _], _ => rfl)
  have a__law_moved : At K mg "_law_moved" s__law_moved p__law_moved := at_of (c.def_ 49 (d := d__law_moved) rfl) (He.glo_ok X G (c.fact 49 (f := .glo "_law_moved") rfl)) (fun _ _ _ _ _ _ us hl => match us, hl with | [_, _, _, _, _], _ => rfl)
  have a__law_left : At K mg "_law_left" s__law_left p__law_left := at_of (c.def_ 50 (d := d__law_left) rfl) (He.glo_ok X G (c.fact 50 (f := .glo "_law_left") rfl)) (fun _ _ _ _ _ _ us hl => match us, hl with | [_], _ => rfl)
  have a__law_woven : At K mg "_law_woven" s__law_woven p__law_woven := at_of (c.def_ 51 (d := d__law_woven) rfl) (He.glo_ok X G (c.fact 51 (f := .glo "_law_woven") rfl)) (fun _ _ _ _ _ _ us hl => match us, hl with | [_, _, _, _, _], _ => rfl)
  have a__law_whole : At K mg "_law_whole" s__law_whole p__law_whole := at_of (c.def_ 52 (d := d__law_whole) rfl) (He.glo_ok X G (c.fact 52 (f := .glo "_law_whole") rfl)) (fun _ _ _ _ _ _ us hl => match us, hl with | [_, _, _, _, _], _ => rfl)
  have a__law_came : At K mg "_law_came" s__law_came p__law_came := at_of (c.def_ 53 (d := d__law_came) rfl) (He.glo_ok X G (c.fact 53 (f := .glo "_law_came") rfl)) (fun _ _ _ _ _ _ us hl => match us, hl with | [_], _ => rfl)
  have a__law_all : At K mg "_law_all" s__law_all p__law_all := at_of (c.def_ 54 (d := d__law_all) rfl) (He.glo_ok X G (c.fact 54 (f := .glo "_law_all") rfl)) (fun _ _ _ _ _ _ us hl => match us, hl with | [_], _ => rfl)
  have a__law_fault : At K mg "_law_fault" s__law_fault p__law_fault := at_of (c.def_ 55 (d := d__law_fault) rfl) (He.glo_ok X G (c.fact 55 (f := .glo "_law_fault") rfl)) (fun _ _ _ _ _ _ us hl => match us, hl with | [_, _, _, _, _], _ => rfl)
  have a__law_led_right : At K mg "_law_led_right" s__law_led_right p__law_led_right := at_of (c.def_ 56 (d := d__law_led_right) rfl) (He.glo_ok X G (c.fact 56 (f := .glo "_law_led_right") rfl)) (fun _ _ _ _ _ _ us hl => match us, hl with | [_, _, _, _, _, _], _ => rfl)
  obtain ⟨fdP, FP⟩ := c.def_ 58 (d := d_Play) rfl
  obtain ⟨fd, FL⟩ := c.def_ 57 (d := d_law) rfl
  have e := hfa.symm.trans (He.glo_ok X G (c.fact 57 (f := .glo "law") rfl))
  cases e
  have b := FunD.bindsA (ps := ["_law_script"]) FL fun _ _ _ _ _ _ us hl => match us, hl with | [_], _ => rfl
  refine ⟨fd, fun s v => b s [v] rfl, fun base _ _ => ?_⟩
  have c__law_hand : Cl P w K mg base 1 "_law_hand" p__law_hand (sp_law_hand K) := wk__law_hand T a__law_hand
  have c__law_draw : Cl P w K mg base 1 "_law_draw" p__law_draw (sp_law_draw K) := wk__law_draw T a__law_draw
  have c__law_some : Cl P w K mg base 2 "_law_some" p__law_some (sp_law_some K) := wk__law_some T a__law_some c__law_draw
  have c__law_shuffled : Cl P w K mg base 2 "_law_shuffled" p__law_shuffled (sp_law_shuffled K) := wk__law_shuffled T a__law_shuffled c__law_draw
  have c__law_inputs : Cl P w K mg base 3 "_law_inputs" p__law_inputs (sp_law_inputs K) := wk__law_inputs T a__law_inputs c__law_some c__law_shuffled
  have c_is_sized : Cl P w K mg base 1 "is_sized" p_is_sized (spis_sized K) := wk_is_sized T a_is_sized
  have c_is_integer : Cl P w K mg base 1 "is_integer" p_is_integer (spis_integer K) := wk_is_integer T a_is_integer
  have c_is_within : Cl P w K mg base 2 "is_within" p_is_within (spis_within K) := wk_is_within T a_is_within c_is_integer
  have c_is_below : Cl P w K mg base 3 "is_below" p_is_below (spis_below K) := wk_is_below T a_is_below c_is_within
  have c_is_value : Cl P w K mg base 4 "is_value" p_is_value (spis_value K) := wk_is_value T a_is_value c_is_below
  have c_are_inputs : Cl P w K mg base 6 "are_inputs" p_are_inputs (spare_inputs K) := wk_are_inputs T a_are_inputs a_is_row_of c_is_sized c_is_value
  have c_Play : ClM P w K mg base 7 "Play" (He.ga K "Play") p_Play (spPlay K) := ⟨_, fdP, He.mkr_ok (c.fact 64 (f := .mkr "Play") rfl), wk_Play (C := 0) T FP c_are_inputs, He.glo_ok X G (c.fact 58 (f := .glo "Play") rfl), FP.bindsN (ps := p_Play) (fun _ _ _ _ _ _ us hl => match us, hl with | [_, _, _], _ => rfl)⟩
  have c__law_begin : Cl P w K mg base 1 "_law_begin" p__law_begin (sp_law_begin K) := wk__law_begin T a__law_begin
  have c__law_left : Cl P w K mg base 1 "_law_left" p__law_left (sp_law_left K) := wk__law_left T a__law_left
  have c__law_name : Cl P w K mg base 1 "_law_name" p__law_name (sp_law_name K) := wk__law_name T a__law_name
  have c__law_next : Cl P w K mg base 1 "_law_next" p__law_next (sp_law_next K) := wk__law_next T a__law_next
  have c__law_moved : Cl P w K mg base 2 "_law_moved" p__law_moved (sp_law_moved K) := wk__law_moved T a__law_moved c__law_name c__law_next
  have c__law_woven : Cl P w K mg base 3 "_law_woven" p__law_woven (sp_law_woven K) := wk__law_woven T a__law_woven c__law_begin c__law_draw c__law_left c__law_some c__law_moved
  have c__law_is : Cl P w K mg base 5 "_law_is" p__law_is (sp_law_is K) := wk__law_is T a__law_is 5
  have c_top_cell : Cl P w K mg base 1 "top_cell" p_top_cell (sptop_cell K) := wk_top_cell T a_top_cell
  have c_cell_of : Cl P w K mg base 2 "cell_of" p_cell_of (spcell_of K) := wk_cell_of T a_cell_of c_top_cell
  have c_top_state : Cl P w K mg base 1 "top_state" p_top_state (sptop_state K) := wk_top_state T a_top_state
  have c_state_of : Cl P w K mg base 2 "state_of" p_state_of (spstate_of K) := wk_state_of T a_state_of c_top_state
  have c_begun : Cl P w K mg base 3 "begun" p_begun (spbegun K) := wk_begun T a_begun c_cell_of c_state_of
  have c_first_standing : Cl P w K mg base 4 "first_standing" p_first_standing (spfirst_standing K) := wk_first_standing T a_first_standing c_begun
  have c_is_listed : Cl P w K mg base 1 "is_listed" p_is_listed (spis_listed K) := wk_is_listed T a_is_listed
  have c_is_hand : Cl P w K mg base 4 "is_hand" p_is_hand (spis_hand K) := wk_is_hand T a_is_hand c_is_below
  have c_wish_by : Cl P w K mg base 1 "wish_by" p_wish_by (spwish_by K) := wk_wish_by T a_wish_by
  have c_after_names : Cl P w K mg base 2 "after_names" p_after_names (spafter_names K) := wk_after_names T a_after_names c_wish_by
  have c_top_after : Cl P w K mg base 3 "top_after" p_top_after (sptop_after K) := wk_top_after T a_top_after c_after_names
  have c_after_of : Cl P w K mg base 4 "after_of" p_after_of (spafter_of K) := wk_after_of T a_after_of c_top_after
  have c_top_next : Cl P w K mg base 1 "top_next" p_top_next (sptop_next K) := wk_top_next T a_top_next
  have c_next_of : Cl P w K mg base 2 "next_of" p_next_of (spnext_of K) := wk_next_of T a_next_of c_top_next
  have c_replaced : Cl P w K mg base 1 "replaced" p_replaced (spreplaced K) := wk_replaced T a_replaced
  have c_after_step : Cl P w K mg base 5 "after_step" p_after_step (spafter_step K) := wk_after_step T a_after_step c_after_of c_next_of c_replaced
  have c_standings_of : Cl P w K mg base 6 "standings_of" p_standings_of (spstandings_of K) := wk_standings_of T a_standings_of c_is_listed c_begun c_is_hand c_after_step
  have c_run : Cl P w K mg base 7 "run" p_run (sprun K) := wk_run T a_run c_standings_of
  have c_movers : Cl P w K mg base 1 "movers" p_movers (spmovers K) := wk_movers T a_movers
  have c_can_step : Cl P w K mg base 2 "can_step" p_can_step (spcan_step K) := wk_can_step T a_can_step c_movers
  have c_is_came : Cl P w K mg base 5 "is_came" p_is_came (spis_came K) := wk_is_came T a_is_came c_is_hand
  have c_most_told : Cl P w K mg base 1 "most_told" p_most_told (spmost_told K) := wk_most_told T a_most_told
  have c_is_item : Cl P w K mg base 4 "is_item" p_is_item (spis_item K) := wk_is_item T a_is_item c_is_below
  have c_is_told : Cl P w K mg base 5 "is_told" p_is_told (spis_told K) := wk_is_told T a_is_told c_is_sized c_most_told c_is_item
  have c_flat : Cl P w K mg base 1 "flat" p_flat (spflat K) := wk_flat T a_flat
  have c_name_fault : Cl P w K mg base 2 "name_fault" p_name_fault (spname_fault K) := wk_name_fault T a_name_fault c_flat
  have c_raw_fault : Cl P w K mg base 3 "raw_fault" p_raw_fault (spraw_fault K) := wk_raw_fault T a_raw_fault c_name_fault
  have c_fault : Cl P w K mg base 6 "fault" p_fault (spfault K) := wk_fault T a_fault c_is_came c_is_told c_raw_fault
  have c__law_came : Cl P w K mg base 1 "_law_came" p__law_came (sp_law_came K) := wk__law_came T a__law_came
  have c__law_all : Cl P w K mg base 1 "_law_all" p__law_all (sp_law_all K) := wk__law_all T a__law_all
  have c__law_fault : Cl P w K mg base 2 "_law_fault" p__law_fault (sp_law_fault K) := wk__law_fault T a__law_fault c__law_all
  have c_check_hand : Cl P w K mg base 5 "check_hand" p_check_hand (spcheck_hand K) := wk_check_hand T a_check_hand c_is_hand
  have c_check_step : Cl P w K mg base 6 "check_step" p_check_step (spcheck_step K) := wk_check_step T a_check_step c_check_hand
  have c_next_step : Cl P w K mg base 7 "next_step" p_next_step (spnext_step K) := wk_next_step T a_next_step c_check_step c_next_of
  have c_step : Cl P w K mg base 7 "step" p_step (spstep K) := wk_step T a_step c_check_step c_after_step
  have c__law_whole : Cl P w K mg base 3 "_law_whole" p__law_whole (sp_law_whole K) := wk__law_whole T a__law_whole c__law_left c__law_moved
  have c_run_out : Cl P w K mg base 8 "run_out" p_run_out (sprun_out K) := wk_run_out T a_run_out c_run c_movers c_after_step
  have c__law_led_right : Cl P w K mg base 9 "_law_led_right" p__law_led_right (sp_law_led_right K) := wk__law_led_right T a__law_led_right c__law_woven c__law_is c_first_standing c__law_draw c__law_some c_run c_can_step c__law_left c_fault c__law_came c__law_fault c_next_step c__law_next c_step c__law_moved c__law_whole c_run_out
  exact wk_law T FL c__law_hand c__law_inputs c_Play c__law_led_right c__law_draw c__law_woven c__law_left c__law_some c__law_moved c__law_is c_run
end Nm


set_option Elab.async false
set_option linter.all false
set_option maxRecDepth 100000
set_option maxHeartbeats 0
namespace Nm
open PySem PySem.Spec PyProof.Rows L2
def loose0 : List Str := ["PictureError", "BadPlay", "NoHand", "NoStep", "NoWeaving", "NoCame", "NoTold", "is_integer", "is_within", "is_below", "is_sized", "is_pair", "is_listed", "replaced", "MOST_HANDS", "MOST_DEEDS", "MOST_VALUE", "MOST_ROUNDS", "MOST_THING", "SWEEP", "TWICE", "BORROW", "LEVELS", "NAMES", "NEAR", "CHAIN", "MANNERS", "PUT", "SEE", "is_deed"]
def loose1 : List Str := ["is_script", "is_value", "is_near_value", "is_lot", "is_row_of", "are_inputs", "Play", "is_hand", "check_hand", "LOOK_levels", "level_cell", "level_state", "level_next", "level_after", "LOOK_manners", "FIRST_CELL", "fresh", "manner_cell", "manner_state", "is_put_next", "manner_next", "numbers_of", "picture_of", "lent", "result_of", "after_sweep", "manner_after", "top_cell", "top_state", "top_next"]
def loose2 : List Str := ["wish_by", "after_names", "after_near", "after_chain", "top_after", "cell_of", "state_of", "next_of", "after_of", "begun", "first_standing", "movers", "can_step", "after_step", "check_step", "step", "next_step", "standings_of", "run", "run_out", "MOST_NUMBER", "is_came", "is_number_and_value", "is_picture", "is_at_once", "is_item", "most_told", "is_told", "flat", "is_older"]
def loose3 : List Str := ["is_within_lot", "are_chain", "is_of_others", "manner_fault", "hands_of", "is_strange", "has_more", "level_fault", "name_fault", "near_fault", "chain_fault", "raw_fault", "fault", "_law_hand", "_law_draw", "_law_some", "_law_shuffled", "_law_is", "_law_inputs", "_law_begin", "_law_next", "_law_level", "_law_name", "_law_near", "_law_lot", "_law_moved", "_law_left", "_law_woven", "_law_whole", "_law_came"]
def loose4 : List Str := ["_law_has", "_law_are_chain", "_law_all", "_law_level_fault", "_law_near_fault", "_law_lot_fault", "_law_fault", "_law_led_right"]
def loose : List Str := loose0 ++ (loose1 ++ (loose2 ++ (loose3 ++ (loose4))))
/-! ### the part of the heap that the names reach -/
def nextG (g : Addr → Option Obj) (as : List Addr) : List Addr := as.flatMap fun a => match g a with
  | some o => He.refsD o
  | none => []
def reach (g : Addr → Option Obj) : Nat → List Addr → List Addr
  | 0, as => as
  | n + 1, as => as ++ reach g n (nextG g as)
def part (g : Addr → Option Obj) : PySem.W.Frag := He.frG g (reach g 4 [mainGlobals])
abbrev AlX : Type := Bool × He.AlD
def obsX (K : PySem.W.Frag) : AlX := (tabs K, He.obsD fa fn K)
def hk : PySem.W.Hook where
  α := AlX
  obs := fun s => obsX (part s.heap.get?)
  val := fun _ => (true, He.valD fn)
  says := fun _ h => ∃ K : PySem.W.Frag, K.In h ∧ tabs K = true ∧ He.SaysD fa fn K
  of := fun _ _ e => ⟨_, He.frG_in, congrArg (fun z : AlX => z.1) e, congrArg (fun z : AlX => z.2) e⟩
  keeps := fun _ _ _ ⟨K, hK, c⟩ k => ⟨K, PySem.W.Frag.In.keeps hK k, c⟩
def ob (s : PySem.W.SharedT) : AlX := obsX (part (HandSHeadRun.getT s))
theorem ob_eq (s : PySem.W.SharedT) : ob s = hk.obs s.abs := by
  have e : HandSHeadRun.getT s = s.abs.heap.get? := funext (HandSHeadRun.getT_eq s)
  unfold ob
  rw [e]
  rfl
abbrev R : PySem.W.OpenRow := PySem.W.OpenLaw.row PySem.Challenge.rw_onepicture_k13_whole_new_names
noncomputable abbrev endS (w : World) (os : OsState) : Option PySem.W.SharedT := HandSHeadRun.endF (HandSHeadRun.stepQ (HandSHeadRun.denQ HandSHeadRun.tabQ) R.prog w) 8000 R.prog w os
section
open PySem.W PySem.Calls HandSHeadRun
/-! the run's ends, one look a run: so each run's own memory is given back -/
theorem run_a (w : World) (os : OsState) : ((endS w os).map fun s => looksF R.prog (boot_heap w.params) s.abs) = some true := by kernel_rfl
theorem run_b (w : World) (os : OsState) : ((endS w os).map fun s => seenQ (view R.prog [137]) loose (importedModules R.prog.main.body) (fun s => xlAt (view R.prog [137]) [] s && recOk R.toRowW.records s) s.abs) = some (openGood (view R.prog [137]) loose) := by kernel_rfl
theorem run_c (w : World) (os : OsState) : ((endS w os).map fun s => ((ob s).1 && (ob s).2.1)) = some true := by kernel_rfl
theorem run_d (w : World) (os : OsState) : ((endS w os).map fun s => (ob s).2.2) = some (He.valD fn).2 := by kernel_rfl
theorem run_top (w : World) : RunEq R (view R.prog [137]) hk ob 8000 loose w := by
  intro os
  have b := run_b w os
  have c := run_c w os
  have d := run_d w os
  obtain ⟨s, hs, ha⟩ := Option.map_eq_some_iff.mp (run_a w os)
  rw [hs] at b c d
  have hb := Option.some.inj b
  have hd := Option.some.inj d
  obtain ⟨h1, h2⟩ := Bool.and_eq_true_iff.mp (Option.some.inj c)
  have ho : ob s = (true, He.valD fn) := Prod.ext h1 (Prod.ext h2 hd)
  show (endS w os).map _ = _
  rw [hs]
  exact congrArg some (Prod.ext ha (Prod.ext hb ho))
end
end Nm


set_option Elab.async false
set_option linter.all false
set_option maxRecDepth 100000
set_option maxHeartbeats 0
open PySem PySem.W PySem.Calls PyProof.Rows
theorem PySem.Challenge.cw_onepicture_k13_whole_new_names_holds : PySem.Challenge.rw_onepicture_k13_whole_new_names.Holds := by
  w_on; o_law
  refine HandSHeadRun.head_any (r := OpenLaw.row PySem.Challenge.rw_onepicture_k13_whole_new_names) (q := view (OpenLaw.row PySem.Challenge.rw_onepicture_k13_whole_new_names).prog [137]) (H := Nm.hk) (ob := Nm.ob) (M := 8000) (loose := Nm.loose) (d := HandSHeadRun.topDef (OpenLaw.row PySem.Challenge.rw_onepicture_k13_whole_new_names).prog 137) (kwd := []) Nm.ob_eq
    (by kernel_rfl) (fun s => by kernel_rfl) Nm.run_top (by kernel_rfl) (by kernel_rfl) (by kernel_rfl) (by rfl) (by first | assumption | decide +kernel) (by decide +kernel) ⟨rfl, rfl, rfl, rfl, rfl, by decide +kernel⟩ ?hw ?hc
  case hw => w_witness2
  case hc =>
    refine L2.walk_ofE (l := PySem.Challenge.rw_onepicture_k13_whole_new_names) (n := 63) (k := 10) (x := "_law_script") (CX := L2.CX0) rfl (by decide) (by kernel_rfl) ⟨rfl, by decide, by decide⟩ ?F (fun _ _ _ _ z => z)
    intro w mg fa h Y G hmg0
    obtain ⟨K, KX, ht, c⟩ := Y
    have hmg : mg ("law" : PySem.Str) = some (.ref fa) := by
      have e : (HandSHeadRun.topDef (OpenLaw.row PySem.Challenge.rw_onepicture_k13_whole_new_names).prog 137).name = ("law" : PySem.Str) := by kernel_rfl
      rw [← e]
      exact hmg0
    obtain ⟨fd, hb, hF⟩ := Nm.facts (P := (PySem.Challenge.rw_onepicture_k13_whole_new_names).prog) (w := w) KX G hmg ht c
    exact ⟨K, fd, Nm.splaw K, KX, hb, fun H a ns hl _ hS => ⟨a, ns, rfl, hS, hl, fun _ => rfl⟩, hF⟩


