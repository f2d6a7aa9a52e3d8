import PyProof.Rows.All
import Wide.All
import OpenK.AllK
import Wide.FinOn
import HandS.ForMost
import HandS.Walk
import HandS.TupSets
import HandS.Zip
import HandS.Deep
import HandS.Conv
import HandS.TupAny
import HandS.IsInst
import HandS.WideBits
import HandS.Style
import HandS.Strs
import HandS.NoneIn
import KE.SortData
import HandS.Defaults
import KE.GoesMore
import KE.GoesEnum
import PyProof.ReprLen
import HandS.HeadEnd
import PySem.Challenge.RW_belltables_k38_whole_consistent_supports
import HandS.Head2
import HandS.HeadHook2
import HandS.HeadHook1
/-! ## text M0 -/
set_option linter.all false
/-! M0: what the defs compute, in plain Lean. -/
namespace BT

/-! ### cells, parts, lots -/
def told (whole arrow : List Nat) : List Nat := arrow.map fun k => whole.getD k 0
def part (cell arrow lesser : List Nat) : List Nat := lesser.map fun k => cell.getD (arrow.idxOf k) 0
def common (a b : List Nat) : List Nat := a.filter fun k => decide (k ∈ b)
def grow (found : List (List Nat)) (size : Nat) : List (List Nat) := found.flatMap fun e => (List.range size).map fun h => e ++ [h]
def cells (sizes : List Nat) : List (List Nat) := sizes.foldl grow [[]]
/-- the sizes of a lot's observables -/
def szs (sizes lot : List Nat) : List Nat := lot.map fun k => sizes.getD k 0
def secs (sizes lot : List Nat) : List (List Nat) := cells (szs sizes lot)

/-! ### orders -/
def ltN : List Nat → List Nat → Bool
  | [], [] => false
  | [], _ :: _ => true
  | _ :: _, [] => false
  | x :: xs, y :: ys => if x = y then ltN xs ys else decide (x < y)
theorem ltN_irrefl : ∀ a, ltN a a = false
  | [] => rfl
  | x :: xs => by simp [ltN, ltN_irrefl xs]
theorem ltN_trans : ∀ {a b c : List Nat}, ltN a b = true → ltN b c = true → ltN a c = true
  | [], [], _, h, _ => by simp [ltN] at h
  | [], _ :: _, [], _, h => by simp [ltN] at h
  | [], _ :: _, _ :: _, _, _ => rfl
  | _ :: _, [], _, h, _ => by simp [ltN] at h
  | _ :: _, _ :: _, [], _, h => by simp [ltN] at h
  | x :: xs, y :: ys, z :: zs, h1, h2 => by
    unfold ltN at *
    by_cases e1 : x = y
    · subst e1
      rw [if_pos rfl] at h1
      by_cases e2 : x = z
      · subst e2
        rw [if_pos rfl] at h2 ⊢
        exact ltN_trans h1 h2
      · rw [if_neg e2] at h2 ⊢; exact h2
    · rw [if_neg e1] at h1
      by_cases e2 : y = z
      · subst e2
        rw [if_neg e1]; exact h1
      · rw [if_neg e2] at h2
        simp at h1 h2
        rw [if_neg (by omega)]
        simp; omega
theorem ltN_tri : ∀ (a b : List Nat), ltN a b = true ∨ a = b ∨ ltN b a = true
  | [], [] => .inr (.inl rfl)
  | [], _ :: _ => .inl rfl
  | _ :: _, [] => .inr (.inr rfl)
  | x :: xs, y :: ys => by
    unfold ltN
    by_cases e : x = y
    · subst e
      rw [if_pos rfl, if_pos rfl]
      rcases ltN_tri xs ys with h | h | h
      · exact .inl h
      · exact .inr (.inl (by rw [h]))
      · exact .inr (.inr h)
    · rw [if_neg e, if_neg (Ne.symm e)]
      by_cases h : x < y
      · exact .inl (by simpa using h)
      · exact .inr (.inr (by simp; omega))
theorem ltN_asymm {a b : List Nat} (h : ltN a b = true) : ltN b a = false := by
  cases q : ltN b a with
  | false => rfl
  | true =>
    have := ltN_trans h q
    rw [ltN_irrefl] at this; cases this
/-- strictly ascending -/
abbrev AscI (l : List Nat) : Prop := l.Pairwise (· < ·)
abbrev AscT (l : List (List Nat)) : Prop := l.Pairwise fun a b => ltN a b = true
/-- two ascending lists with the same members are one -/
theorem ascT_ext {l m : List (List Nat)} (hl : AscT l) (hm : AscT m) (h : ∀ x, x ∈ l ↔ x ∈ m) : l = m := by
  have nl : l.Nodup := hl.imp fun {a b} q e => by rw [e, ltN_irrefl] at q; cases q
  have nm : m.Nodup := hm.imp fun {a b} q e => by rw [e, ltN_irrefl] at q; cases q
  have p : l.Perm m := (List.perm_ext_iff_of_nodup nl nm).mpr h
  refine List.Perm.eq_of_pairwise (le := fun a b => ltN a b = true) (fun a b _ _ h1 h2 => ?_) hl hm p
  rw [ltN_asymm h1] at h2; cases h2
theorem ascI_ext {l m : List Nat} (hl : AscI l) (hm : AscI m) (h : ∀ x, x ∈ l ↔ x ∈ m) : l = m := by
  have nl : l.Nodup := hl.imp fun {a b} q e => by omega
  have nm : m.Nodup := hm.imp fun {a b} q e => by omega
  have p : l.Perm m := (List.perm_ext_iff_of_nodup nl nm).mpr h
  exact List.Perm.eq_of_pairwise (le := fun a b => a < b) (fun a b _ _ h1 h2 => by omega) hl hm p
/-- the least order -/
def leN (a b : List Nat) : Bool := !ltN b a
def srtT (l : List (List Nat)) : List (List Nat) := l.mergeSort leN
theorem leN_total (a b : List Nat) : (leN a b || leN b a) = true := by
  unfold leN
  rcases ltN_tri a b with h | h | h
  · rw [ltN_asymm h]; rfl
  · subst h; rw [ltN_irrefl]; rfl
  · rw [ltN_asymm h]; simp
theorem leN_trans (a b c : List Nat) (h1 : leN a b = true) (h2 : leN b c = true) : leN a c = true := by
  unfold leN at *
  simp only [Bool.not_eq_true'] at *
  cases q : ltN c a with
  | false => rfl
  | true =>
    rcases ltN_tri b c with h | h | h
    · rw [ltN_trans h q] at h1; cases h1
    · subst h; rw [h1] at q; cases q
    · rw [h2] at h; cases h
theorem srtT_perm (l : List (List Nat)) : (srtT l).Perm l := List.mergeSort_perm _ _
theorem srtT_pw (l : List (List Nat)) : (srtT l).Pairwise fun a b => leN a b = true := List.pairwise_mergeSort leN_trans leN_total l
/-- what is sorted and has no doubles ascends -/
theorem srtT_asc {l : List (List Nat)} (h : l.Nodup) : AscT (srtT l) := by
  have n : (srtT l).Nodup := (srtT_perm l).nodup_iff.mpr h
  have := (srtT_pw l).and n
  refine this.imp fun {a b} q => ?_
  rcases ltN_tri a b with h | h | h
  · exact h
  · exact absurd h q.2
  · have := q.1
    unfold leN at this
    rw [h] at this; cases this
/-- neighbours -/
theorem pairwise_next {α : Type} {R : α → α → Prop} : ∀ {l : List α}, l.Pairwise R → ∀ p ∈ l.zip l.tail, R p.1 p.2
  | [], _, p, hp => by simp at hp
  | [a], _, p, hp => by simp at hp
  | a :: b :: l, h, p, hp => by
    rw [List.tail_cons, List.zip_cons_cons] at hp
    rcases List.mem_cons.mp hp with rfl | hp
    · exact (List.pairwise_cons.mp h).1 b List.mem_cons_self
    · exact pairwise_next (List.pairwise_cons.mp h).2 p hp

/-! ### worlds and supports that are right -/
def prod (l : List Nat) : Nat := l.foldl (· * ·) 1
structure WorldOk (sizes : List Nat) (ctx : List (List Nat)) : Prop where
  some : 1 ≤ sizes.length ∧ sizes.length ≤ 6
  each : ∀ s ∈ sizes, 2 ≤ s ∧ s ≤ 4
  prod : prod sizes ≤ 64
  asc : ∀ c ∈ ctx, AscI c
  lt : ∀ c ∈ ctx, ∀ k ∈ c, k < sizes.length
  ne : ∀ c ∈ ctx, c ≠ []
  ascT : AscT ctx
  part : ∀ a ∈ ctx, ∀ b ∈ ctx, a ≠ b → ¬ ∀ k ∈ a, k ∈ b
  all : ∀ k, k < sizes.length → ∃ c ∈ ctx, k ∈ c
/-- a cell of a lot -/
structure CellOk (sizes lot cell : List Nat) : Prop where
  len : cell.length = lot.length
  lt : ∀ i (h : i < cell.length) (h' : i < lot.length), cell[i] < sizes.getD lot[i] 0
structure RowOk (sizes lot : List Nat) (row : List (List Nat)) : Prop where
  ne : row ≠ []
  asc : AscT row
  cell : ∀ c ∈ row, CellOk sizes lot c
  few : row.length < 64
structure SupOk (sizes : List Nat) (ctx : List (List Nat)) (rows : List (List (List Nat))) : Prop where
  len : rows.length = ctx.length
  row : ∀ i (h : i < rows.length) (h' : i < ctx.length), RowOk sizes ctx[i] rows[i]
end BT

/-! ## text M1 -/
set_option linter.all false
/-! M1: facts about cells, parts, tellings. -/
namespace BT
theorem cells_snoc (l : List Nat) (x : Nat) : cells (l ++ [x]) = grow (cells l) x := by unfold cells; rw [List.foldl_append]; rfl
theorem mem_grow {f : List (List Nat)} {n : Nat} {c : List Nat} : c ∈ grow f n ↔ ∃ e ∈ f, ∃ h, h < n ∧ c = e ++ [h] := by
  unfold grow
  rw [List.mem_flatMap]
  constructor
  · rintro ⟨e, he, hc⟩
    obtain ⟨h, hh, rfl⟩ := List.mem_map.mp hc
    exact ⟨e, he, h, List.mem_range.mp hh, rfl⟩
  · rintro ⟨e, he, h, hh, rfl⟩
    exact ⟨e, he, List.mem_map.mpr ⟨h, List.mem_range.mpr hh, rfl⟩⟩
/-- c is a cell of sizes l -/
def IsCellOf (l c : List Nat) : Prop := c.length = l.length ∧ ∀ i (h : i < c.length) (h' : i < l.length), c[i] < l[i]
theorem isCell_snoc {l : List Nat} {x : Nat} {c : List Nat} : IsCellOf (l ++ [x]) c ↔ ∃ e h, c = e ++ [h] ∧ IsCellOf l e ∧ h < x := by
  constructor
  · rintro ⟨h1, h2⟩
    rw [List.length_append, List.length_singleton] at h1
    have hc : c ≠ [] := by intro q; subst q; simp at h1
    refine ⟨c.dropLast, c.getLast hc, (List.dropLast_concat_getLast hc).symm, ⟨by simp; omega, fun i hi hi' => ?_⟩, ?_⟩
    · have hi2 : i < c.length := by simp at hi; omega
      have := h2 i hi2 (by simp; omega)
      rw [List.getElem_append_left hi'] at this
      rw [List.getElem_dropLast]
      exact this
    · have := h2 (c.length - 1) (by omega) (by simp; omega)
      rw [List.getElem_append_right (by omega)] at this
      rw [List.getLast_eq_getElem]
      simpa using this
  · rintro ⟨e, h, rfl, ⟨h1, h2⟩, h3⟩
    refine ⟨by simp [h1], fun i hi hi' => ?_⟩
    by_cases hl : i < e.length
    · rw [List.getElem_append_left hl, List.getElem_append_left (by omega)]
      exact h2 i hl (by omega)
    · rw [List.getElem_append_right (by omega), List.getElem_append_right (by omega)]
      simpa using h3
theorem mem_cells : ∀ {l c : List Nat}, c ∈ cells l ↔ IsCellOf l c := by
  have key : ∀ n (l : List Nat), l.length = n → ∀ c, c ∈ cells l ↔ IsCellOf l c := by
    intro n
    induction n with
    | zero =>
      intro l hl c
      have : l = [] := List.eq_nil_of_length_eq_zero hl
      subst this
      unfold cells IsCellOf
      simp only [List.foldl_nil, List.mem_singleton, List.length_nil]
      constructor
      · rintro rfl; exact ⟨rfl, fun i h => by simp at h⟩
      · rintro ⟨h, _⟩; exact List.eq_nil_of_length_eq_zero h
    | succ n ih =>
      intro l hl c
      rcases List.eq_nil_or_concat l with e | ⟨m, x, e⟩
      · subst e; simp at hl
      · subst e
        rw [List.concat_eq_append] at *
        rw [cells_snoc, mem_grow, isCell_snoc]
        have hm : m.length = n := by simpa using hl
        constructor
        · rintro ⟨e, he, h, hh, rfl⟩
          exact ⟨e, h, rfl, (ih m hm e).mp he, hh⟩
        · rintro ⟨e, h, rfl, he, hh⟩
          exact ⟨e, (ih m hm e).mpr he, h, hh, rfl⟩
  intro l c
  exact key _ l rfl c
theorem cells_length {l c : List Nat} (h : c ∈ cells l) : c.length = l.length := (mem_cells.mp h).1
theorem prod_app (l : List Nat) (x : Nat) : prod (l ++ [x]) = prod l * x := by unfold prod; rw [List.foldl_append]; rfl
theorem grow_len (f : List (List Nat)) (n : Nat) : (grow f n).length = f.length * n := by
  unfold grow
  induction f with
  | nil => simp
  | cons a f ih => rw [List.flatMap_cons, List.length_append, ih, List.length_map, List.length_range, List.length_cons, Nat.add_mul]; omega
theorem cells_count : ∀ (l : List Nat), (cells l).length = prod l := by
  have key : ∀ n (l : List Nat), l.length = n → (cells l).length = prod l := by
    intro n
    induction n with
    | zero =>
      intro l hl
      have : l = [] := List.eq_nil_of_length_eq_zero hl
      subst this; rfl
    | succ n ih =>
      intro l hl
      rcases List.eq_nil_or_concat l with e | ⟨m, x, e⟩
      · subst e; simp at hl
      · subst e
        rw [List.concat_eq_append] at *
        rw [cells_snoc, grow_len, prod_app, ih m (by simpa using hl)]
  intro l
  exact key _ l rfl
theorem ltN_append_left : ∀ (a b c d : List Nat), a.length = b.length → ltN a b = true → ltN (a ++ c) (b ++ d) = true
  | [], [], _, _, _, h => by simp [ltN] at h
  | [], _ :: _, _, _, h, _ => by simp at h
  | _ :: _, [], _, _, h, _ => by simp at h
  | x :: a, y :: b, c, d, hl, h => by
    show (if x = y then ltN (a ++ c) (b ++ d) else decide (x < y)) = true
    have h : (if x = y then ltN a b else decide (x < y)) = true := h
    by_cases e : x = y
    · rw [if_pos e] at h ⊢
      exact ltN_append_left a b c d (by simpa using hl) h
    · rw [if_neg e] at h ⊢; exact h
theorem ltN_append_same : ∀ (a : List Nat) (x y : Nat), x < y → ltN (a ++ [x]) (a ++ [y]) = true
  | [], x, y, h => by
    show (if x = y then false else decide (x < y)) = true
    rw [if_neg (by omega)]; simpa using h
  | z :: a, x, y, h => by
    show (if z = z then ltN (a ++ [x]) (a ++ [y]) else decide (z < z)) = true
    rw [if_pos rfl]
    exact ltN_append_same a x y h
theorem range_asc : ∀ n : Nat, (List.range n).Pairwise (· < ·) := fun n => List.pairwise_lt_range
theorem cells_asc : ∀ (l : List Nat), AscT (cells l) := by
  have key : ∀ n (l : List Nat), l.length = n → AscT (cells l) := by
    intro n
    induction n with
    | zero =>
      intro l hl
      have : l = [] := List.eq_nil_of_length_eq_zero hl
      subst this
      exact List.pairwise_singleton _ _
    | succ n ih =>
      intro l hl
      rcases List.eq_nil_or_concat l with e | ⟨m, x, e⟩
      · subst e; simp at hl
      · subst e
        rw [List.concat_eq_append] at *
        rw [cells_snoc]
        have h1 := ih m (by simpa using hl)
        have h2 : ∀ c ∈ cells m, c.length = m.length := fun c hc => cells_length hc
        unfold grow
        rw [AscT, List.pairwise_flatMap]
        refine ⟨fun a ha => ?_, ?_⟩
        · rw [List.pairwise_map]
          exact (range_asc x).imp fun h => ltN_append_same _ _ _ h
        · refine h1.imp_of_mem fun {a b} ha hb hab u hu v hv => ?_
          obtain ⟨p, _, rfl⟩ := List.mem_map.mp hu
          obtain ⟨q, _, rfl⟩ := List.mem_map.mp hv
          exact ltN_append_left a b _ _ (by rw [h2 a ha, h2 b hb]) hab
  intro l
  exact key _ l rfl
end BT

/-! ## text M2 -/
set_option linter.all false
/-! M2: what the law's defs compute. -/
namespace BT
/-! ### products -/
theorem foldl_mul (l : List Nat) (a : Nat) : l.foldl (· * ·) a = a * l.foldl (· * ·) 1 := by
  induction l generalizing a with
  | nil => simp
  | cons x l ih => rw [List.foldl_cons, List.foldl_cons, ih, ih (1 * x), Nat.one_mul, Nat.mul_assoc]
theorem prod_cons (x : Nat) (l : List Nat) : prod (x :: l) = x * prod l := by
  unfold prod
  rw [List.foldl_cons, foldl_mul, Nat.one_mul]
theorem prod_pos {l : List Nat} (h : ∀ s ∈ l, 1 ≤ s) : 1 ≤ prod l := by
  induction l with
  | nil => exact Nat.le_refl 1
  | cons x l ih =>
    rw [prod_cons]
    exact Nat.mul_pos (h x List.mem_cons_self) (ih fun s hs => h s (List.mem_cons_of_mem _ hs))
theorem prod_sub {l m : List Nat} (s : l.Sublist m) (h : ∀ s ∈ m, 1 ≤ s) : prod l ≤ prod m := by
  induction s with
  | slnil => exact Nat.le_refl _
  | cons a _ ih =>
    rw [prod_cons]
    exact Nat.le_trans (ih fun s hs => h s (List.mem_cons_of_mem _ hs)) (Nat.le_mul_of_pos_left _ (h a List.mem_cons_self))
  | cons_cons a _ ih =>
    rw [prod_cons, prod_cons]
    exact Nat.mul_le_mul_left _ (ih fun s hs => h s (List.mem_cons_of_mem _ hs))
theorem szs_range' (l : List Nat) : szs l (List.range l.length) = l := by
  unfold szs
  apply List.ext_getElem
  · simp
  · intro i h1 h2
    simp [List.getD_eq_getElem?_getD, List.getElem?_eq_getElem h2]
theorem asc_sub {lot : List Nat} {n : Nat} (h : AscI lot) (hn : ∀ k ∈ lot, k < n) : lot.Sublist (List.range n) := by
  have e : lot = (List.range n).filter fun k => decide (k ∈ lot) := ascI_ext h ((range_asc n).filter _) fun x => by
    rw [List.mem_filter, List.mem_range]
    simp
    exact fun hx => hn x hx
  rw [e]
  exact List.filter_sublist
theorem szs_sub {sizes lot : List Nat} (h : AscI lot) (hn : ∀ k ∈ lot, k < sizes.length) : (szs sizes lot).Sublist sizes := by
  have := (asc_sub h hn).map fun k => sizes.getD k 0
  have e := szs_range' sizes
  unfold szs at e ⊢
  rw [e] at this
  exact this
theorem WorldOk.secs_count {sizes : List Nat} {ctx : List (List Nat)} (h : WorldOk sizes ctx) {lot : List Nat} (hl : lot ∈ ctx) (i : Nat) : (cells ((szs sizes lot).take i)).length ≤ 64 := by
  rw [cells_count]
  exact Nat.le_trans (prod_sub ((List.take_sublist _ _).trans (szs_sub (h.asc lot hl) (h.lt lot hl))) fun s hs => by have := h.each s hs; omega) h.prod
/-! ### what the defs compute -/
def lotOf (ctx : List (List Nat)) (i : Nat) : List Nat := ctx.getD i []
def rowOf (rows : List (List (List Nat))) (i : Nat) : List (List Nat) := rows.getD i []
def addNew (acc : List (List Nat)) (c : List Nat) : List (List Nat) := if c ∈ acc then acc else acc ++ [c]
def dedup (l : List (List Nat)) : List (List Nat) := l.foldl addNew []
theorem addNew_nodup {acc : List (List Nat)} {c : List Nat} (h : acc.Nodup) : (addNew acc c).Nodup := by
  unfold addNew
  split
  · exact h
  · rename_i hc
    rw [List.nodup_append]
    refine ⟨h, by simp, fun a ha b hb e => ?_⟩
    rw [List.mem_singleton] at hb
    subst hb e
    exact hc ha
theorem mem_addNew {acc : List (List Nat)} {c x : List Nat} : x ∈ addNew acc c ↔ x ∈ acc ∨ x = c := by
  unfold addNew
  split
  · rename_i hc
    exact ⟨.inl, fun h => h.elim id fun e => e ▸ hc⟩
  · simp
theorem dedup_foldl {l : List (List Nat)} : ∀ {acc : List (List Nat)}, acc.Nodup → (l.foldl addNew acc).Nodup ∧ ∀ x, x ∈ l.foldl addNew acc ↔ x ∈ acc ∨ x ∈ l := by
  induction l with
  | nil => intro acc h; exact ⟨h, fun x => by simp⟩
  | cons c l ih =>
    intro acc h
    obtain ⟨h1, h2⟩ := ih (acc := addNew acc c) (addNew_nodup h)
    refine ⟨h1, fun x => ?_⟩
    rw [List.foldl_cons, h2, mem_addNew, List.mem_cons, or_assoc]
theorem dedup_nodup (l : List (List Nat)) : (dedup l).Nodup := (dedup_foldl List.nodup_nil).1
theorem mem_dedup {l : List (List Nat)} {x : List Nat} : x ∈ dedup l ↔ x ∈ l := by
  have := (dedup_foldl (l := l) List.nodup_nil).2 x
  simpa [dedup] using this
theorem dedup_take {l : List (List Nat)} {i : Nat} {x : List Nat} (h : l[i]? = some x) : dedup (l.take (i + 1)) = addNew (dedup (l.take i)) x := by
  unfold dedup
  rw [List.take_add_one, h, List.foldl_append]
  rfl
theorem dedup_len (l : List (List Nat)) : (dedup l).length ≤ l.length := by
  have key : ∀ (l acc : List (List Nat)), (l.foldl addNew acc).length ≤ acc.length + l.length := by
    intro l
    induction l with
    | nil => intro acc; simp
    | cons c l ih =>
      intro acc
      rw [List.foldl_cons]
      refine Nat.le_trans (ih _) ?_
      unfold addNew
      split <;> simp <;> omega
  have := key l []
  simpa [dedup] using this
def wholesRow (wholes : List (List Nat)) (arrow : List Nat) : List (List Nat) := srtT (dedup (wholes.map fun g => told g arrow))
def poss (sizes : List Nat) (ctx : List (List Nat)) (rows : List (List (List Nat))) : List (List Nat) :=
  (cells sizes).filter fun g => decide (((List.range rows.length).filter fun k => !decide (told g (lotOf ctx k) ∈ rowOf rows k)) = [])
def shrFits (ctx : List (List Nat)) (rows : List (List (List Nat))) (i : Nat) (c : List Nat) (j : Nat) : Bool :=
  decide (part c (lotOf ctx i) (common (lotOf ctx i) (lotOf ctx j)) ∈ (rowOf rows j).map fun e => part e (lotOf ctx j) (common (lotOf ctx i) (lotOf ctx j)))
def shrRow (ctx : List (List Nat)) (rows : List (List (List Nat))) (i : Nat) : List (List Nat) := (rowOf rows i).filter fun c => (List.range rows.length).all (shrFits ctx rows i c)
def shrStep (ctx : List (List Nat)) (rows : List (List (List Nat))) : List (List (List Nat)) := (List.range rows.length).map (shrRow ctx rows)
def shrN (ctx : List (List Nat)) : Nat → List (List (List Nat)) → List (List (List Nat))
  | 0, rows => rows
  | n + 1, rows => if shrStep ctx rows = rows then rows else shrN ctx n (shrStep ctx rows)
/-- the lots of a world out of lots -/
def every (lots : List (List Nat)) (many : Nat) : List (List Nat) := srtT (lots ++ ((List.range many).filter fun k => !decide (k ∈ lots.flatten)).map fun k => [k])
def wider (ev : List (List Nat)) (lot : List Nat) : List (List Nat) := ev.filter fun e => decide (lot.length < e.length) && decide (common lot e = lot)
def ridStep (ev acc : List (List Nat)) (lot : List Nat) : List (List Nat) := if wider ev lot = [] ∧ lot ∉ acc then acc ++ [lot] else acc
def rid (lots : List (List Nat)) (many : Nat) : List (List Nat) := (every lots many).foldl (ridStep (every lots many)) []
end BT

/-! ## text M3 -/
set_option linter.all false
/-! M3: trees of lots; the lots that lie in no other. -/
namespace BT
/-! ### small facts -/
theorem perm_map_inv {α β : Type} {f : α → β} {fs gs : List β} (h : fs.Perm gs) : ∀ l : List α, gs = l.map f → ∃ m : List α, m.Perm l ∧ fs = m.map f := by
  induction h with
  | nil => intro l hl; exact ⟨l, List.Perm.refl _, hl⟩
  | cons x _ ih =>
    intro l hl
    cases l with
    | nil => cases hl
    | cons a l =>
      rw [List.map_cons] at hl
      injection hl with h1 h2
      obtain ⟨m, hm, e⟩ := ih l h2
      exact ⟨a :: m, hm.cons a, by rw [List.map_cons, h1, e]⟩
  | swap x y l' =>
    intro l hl
    cases l with
    | nil => cases hl
    | cons a l =>
      cases l with
      | nil => cases hl
      | cons b l =>
        rw [List.map_cons, List.map_cons] at hl
        injection hl with h1 h2
        injection h2 with h2 h3
        exact ⟨b :: a :: l, List.Perm.swap a b l, by rw [List.map_cons, List.map_cons, h1, h2, h3]⟩
  | trans _ _ ih1 ih2 =>
    intro l hl
    obtain ⟨m, hm, e⟩ := ih2 l hl
    obtain ⟨m', hm', e'⟩ := ih1 m e
    exact ⟨m', hm'.trans hm, e'⟩
theorem asc_of_le {l : List Nat} (h : l.Pairwise (· ≤ ·)) (n : l.Nodup) : AscI l := (h.and n).imp fun {a b} q => by have := q.1; have := q.2; omega
theorem asc_nodup {l : List Nat} (h : AscI l) : l.Nodup := h.imp fun {a b} q => by omega
theorem nodup_sub_len {α : Type} [DecidableEq α] {l m : List α} (h : l.Nodup) (s : ∀ x ∈ l, x ∈ m) : l.length ≤ m.length := by
  induction l generalizing m with
  | nil => exact Nat.zero_le _
  | cons x l ih =>
    obtain ⟨h1, h2⟩ := List.nodup_cons.mp h
    have hx : x ∈ m := s x List.mem_cons_self
    have := ih (m := m.erase x) h2 fun y hy => (List.mem_erase_of_ne fun e => h1 (by rw [← e]; exact hy)).mpr (s y (List.mem_cons_of_mem _ hy))
    rw [List.length_erase_of_mem hx] at this
    have := List.length_pos_of_mem hx
    rw [List.length_cons]
    omega
theorem nodup_sub_eq {α : Type} [DecidableEq α] {l m : List α} (h : l.Nodup) (hm : m.Nodup) (s : ∀ x ∈ l, x ∈ m) (e : m.length ≤ l.length) : ∀ x ∈ m, x ∈ l := by
  intro y hy
  by_cases q : y ∈ l
  · exact q
  · exfalso
    have := nodup_sub_len (m := m.erase y) h fun x hx => (List.mem_erase_of_ne fun z => q (by rw [← z]; exact hx)).mpr (s x hx)
    rw [List.length_erase_of_mem hy] at this
    have := List.length_pos_of_mem hy
    omega
/-! ### trees -/
inductive Rip : List (List Nat) → Prop where
  | one (L : List Nat) : Rip [L]
  | snoc {ls : List (List Nat)} {L Lp : List Nat} : Rip ls → Lp ∈ ls → (∀ x ∈ L, (∃ K ∈ ls, x ∈ K) → x ∈ Lp) → Rip (ls ++ [L])
def wt (ls : List (List Nat)) : Nat := (ls.map fun L => 2 ^ L.length).sum
theorem wt_snoc (ls : List (List Nat)) (L : List Nat) : wt (ls ++ [L]) = wt ls + 2 ^ L.length := by
  unfold wt
  rw [List.map_append, List.sum_append]
  simp
/-- what the lots are after i more -/
structure TLi (many : Nat) (o : List Nat) (i : Nat) (fs : List (List Nat)) (fr : Nat) : Prop where
  rip : Rip fs
  asc : ∀ L ∈ fs, AscI L ∧ L ≠ []
  len : fs.length ≤ i + 1
  wt : wt fs ≤ 8 * fr
  fr1 : fr ≤ many
  fr2 : min many (i + 1) ≤ fr
  cov : ∀ x ∈ o.take fr, ∃ L ∈ fs, x ∈ L
  sub : ∀ L ∈ fs, ∀ x ∈ L, x ∈ o.take fr
theorem take_add_drop {α : Type} (o : List α) (fr m : Nat) : o.take (fr + m) = o.take fr ++ (o.drop fr).take m := List.take_add
theorem TLi.skip {many i fr : Nat} {o : List Nat} {fs : List (List Nat)} (h : TLi many o i fs fr) (q : ¬ fr < many) : TLi many o (i + 1) fs fr :=
  ⟨h.rip, h.asc, Nat.le_trans h.len (by omega), h.wt, h.fr1, by have := h.fr1; omega, h.cov, h.sub⟩
theorem TLi.first {many s : Nat} {o N : List Nat} (ho : o.Perm (List.range many)) (h1 : 1 ≤ s) (h3 : s ≤ 3) (hs : s ≤ many) (hp : N.Perm (o.take s)) (hw : N.Pairwise (· ≤ ·)) : TLi many o 0 [N] s := by
  have nd : (o.take s).Nodup := (ho.nodup_iff.mpr List.nodup_range).sublist (List.take_sublist _ _)
  have ol : o.length = many := by rw [ho.length_eq, List.length_range]
  have nl : N.length = s := by rw [hp.length_eq, List.length_take]; omega
  refine ⟨.one N, fun L hL => ?_, by simp, ?_, hs, by omega, fun x hx => ⟨N, by simp, hp.mem_iff.mpr hx⟩, fun L hL x hx => ?_⟩
  · rw [List.mem_singleton] at hL
    subst hL
    exact ⟨asc_of_le hw (hp.nodup_iff.mpr nd), fun e => by rw [e] at nl; simp at nl; omega⟩
  · unfold BT.wt
    simp only [List.map_cons, List.map_nil, List.sum_cons, List.sum_nil, nl]
    match s, h1, h3 with
    | 1, _, _ => decide
    | 2, _, _ => decide
    | 3, _, _ => decide
  · rw [List.mem_singleton] at hL
    subst hL
    exact hp.mem_iff.mp hx
theorem TLi.more {many i fr m : Nat} {o N ks Lp : List Nat} {fs : List (List Nat)} (h : TLi many o i fs fr) (ho : o.Perm (List.range many)) (hL : Lp ∈ fs) (hk : ks.Nodup) (hk2 : ks.length ≤ 2) (hks : ∀ x ∈ ks, x ∈ Lp) (h1 : 1 ≤ m) (h2 : m ≤ 2) (hm : fr + m ≤ many)
    (hp : N.Perm (ks ++ (o.drop fr).take m)) (hw : N.Pairwise (· ≤ ·)) : TLi many o (i + 1) (fs ++ [N]) (fr + m) := by
  have ndo := ho.nodup_iff.mpr List.nodup_range
  have ol : o.length = many := by rw [ho.length_eq, List.length_range]
  have hsp := List.take_append_drop fr o
  have ndsp : (o.take fr ++ o.drop fr).Nodup := by rw [hsp]; exact ndo
  obtain ⟨n1, n2, n3⟩ := List.nodup_append.mp ndsp
  have hdis : ∀ x ∈ o.take fr, x ∉ o.drop fr := fun x hx hx' => n3 x hx x hx' rfl
  have kd : ∀ x ∈ ks, x ∈ o.take fr := fun x hx => h.sub Lp hL x (hks x hx)
  have nd : (ks ++ (o.drop fr).take m).Nodup := List.nodup_append.mpr ⟨hk, n2.sublist (List.take_sublist _ _), fun a ha b hb e => hdis a (kd a ha) (by rw [e]; exact List.mem_of_mem_take hb)⟩
  have nl : N.length = ks.length + m := by rw [hp.length_eq, List.length_append, List.length_take, List.length_drop]; omega
  refine ⟨.snoc h.rip hL fun x hx hK => ?_, fun L hL' => ?_, ?_, ?_, hm, by have := h.fr2; omega, fun x hx => ?_, fun L hL' x hx => ?_⟩
  · obtain ⟨K, hK, hxK⟩ := hK
    have hxf := h.sub K hK x hxK
    rcases List.mem_append.mp (hp.mem_iff.mp hx) with q | q
    · exact hks x q
    · exact absurd (List.mem_of_mem_take q) (hdis x hxf)
  · rcases List.mem_append.mp hL' with q | q
    · exact h.asc L q
    · rw [List.mem_singleton] at q
      subst q
      exact ⟨asc_of_le hw (hp.nodup_iff.mpr nd), fun e => by rw [e] at nl; simp at nl; omega⟩
  · rw [List.length_append, List.length_singleton]
    have := h.len; omega
  · rw [wt_snoc]
    have w := h.wt
    have : 2 ^ N.length ≤ 8 * m := by
      rw [nl]
      have : 2 ^ (ks.length + m) ≤ 2 ^ (2 + m) := Nat.pow_le_pow_right (by decide) (by omega)
      refine Nat.le_trans this ?_
      match m, h1, h2 with
      | 1, _, _ => decide
      | 2, _, _ => decide
    omega
  · rw [take_add_drop] at hx
    rcases List.mem_append.mp hx with q | q
    · obtain ⟨L, h5, h6⟩ := h.cov x q
      exact ⟨L, List.mem_append_left _ h5, h6⟩
    · exact ⟨N, List.mem_append_right _ (List.mem_singleton.mpr rfl), hp.mem_iff.mpr (List.mem_append_right _ q)⟩
  · rw [take_add_drop]
    rcases List.mem_append.mp hL' with q | q
    · exact List.mem_append_left _ (h.sub L q x hx)
    · rw [List.mem_singleton] at q
      subst q
      rcases List.mem_append.mp (hp.mem_iff.mp hx) with z | z
      · exact List.mem_append_left _ (kd x z)
      · exact List.mem_append_right _ z
/-- the lots of a tree -/
structure TL (many : Nat) (fs : List (List Nat)) : Prop where
  rip : Rip fs
  asc : ∀ L ∈ fs, AscI L ∧ L ≠ []
  len : fs.length ≤ 7
  wt : wt fs ≤ 8 * many
  lt : ∀ L ∈ fs, ∀ x ∈ L, x < many
  cov : ∀ k, k < many → ∃ L ∈ fs, k ∈ L
theorem TLi.done {many fr : Nat} {o : List Nat} {fs : List (List Nat)} (h : TLi many o 6 fs fr) (ho : o.Perm (List.range many)) (hm : many ≤ 7) : TL many fs := by
  have ol : o.length = many := by rw [ho.length_eq, List.length_range]
  have e : fr = many := by have := h.fr1; have := h.fr2; omega
  subst e
  have ht : o.take fr = o := by rw [← ol]; exact List.take_length
  exact ⟨h.rip, h.asc, h.len, h.wt, fun L hL x hx => by
    have := h.sub L hL x hx
    rw [ht] at this
    exact List.mem_range.mp (ho.mem_iff.mp this), fun k hk => h.cov k (by rw [ht]; exact ho.mem_iff.mpr (List.mem_range.mpr hk))⟩
/-! ### the lots that lie in no other -/
theorem mem_common' {a b : List Nat} {k : Nat} : k ∈ common a b ↔ k ∈ a ∧ k ∈ b := by
  unfold common
  rw [List.mem_filter]
  simp
theorem common_eq {a b : List Nat} : common a b = a ↔ ∀ x ∈ a, x ∈ b := by
  unfold common
  rw [List.filter_eq_self]
  simp
theorem dedup_sub : ∀ l : List (List Nat), (dedup l).Sublist l := by
  have key : ∀ (l acc done : List (List Nat)), acc.Sublist done → (l.foldl addNew acc).Sublist (done ++ l) := by
    intro l
    induction l with
    | nil => intro acc done h; simpa using h
    | cons x l ih =>
      intro acc done h
      rw [List.foldl_cons]
      have : (addNew acc x).Sublist (done ++ [x]) := by
        unfold addNew
        split
        · exact h.trans (List.sublist_append_left _ _)
        · exact h.append (List.Sublist.refl _)
      have := ih _ _ this
      rw [List.append_assoc] at this
      exact this
  intro l
  have := key l [] [] (List.Sublist.refl _)
  simpa [dedup] using this
theorem ridFold (ev : List (List Nat)) : ∀ (l acc : List (List Nat)), l.foldl (ridStep ev) acc = (l.filter fun L => decide (wider ev L = [])).foldl addNew acc := by
  intro l
  induction l with
  | nil => intro acc; rfl
  | cons x l ih =>
    intro acc
    rw [List.foldl_cons, ih, List.filter_cons]
    by_cases h : wider ev x = []
    · rw [if_pos (by simpa using h), List.foldl_cons]
      congr 1
      unfold ridStep addNew
      by_cases q : x ∈ acc
      · rw [if_neg (fun z => z.2 q), if_pos q]
      · rw [if_pos ⟨h, q⟩, if_neg q]
    · rw [if_neg (by simpa using h)]
      congr 1
      unfold ridStep
      rw [if_neg (fun z => h z.1)]
theorem rid_eq (lots : List (List Nat)) (many : Nat) : rid lots many = dedup ((every lots many).filter fun L => decide (wider (every lots many) L = [])) := ridFold _ _ _
theorem mem_every {lots : List (List Nat)} {many : Nat} {L : List Nat} : L ∈ every lots many ↔ L ∈ lots ∨ ∃ k, k < many ∧ k ∉ lots.flatten ∧ L = [k] := by
  unfold every
  rw [(srtT_perm _).mem_iff, List.mem_append, List.mem_map]
  constructor
  · rintro (h | ⟨k, hk, rfl⟩)
    · exact .inl h
    · obtain ⟨h1, h2⟩ := List.mem_filter.mp hk
      exact .inr ⟨k, List.mem_range.mp h1, by simpa using h2, rfl⟩
  · rintro (h | ⟨k, h1, h2, rfl⟩)
    · exact .inl h
    · exact .inr ⟨k, List.mem_filter.mpr ⟨List.mem_range.mpr h1, by simpa using h2⟩, rfl⟩
theorem mem_rid {lots : List (List Nat)} {many : Nat} {L : List Nat} : L ∈ rid lots many ↔ L ∈ every lots many ∧ wider (every lots many) L = [] := by
  rw [rid_eq, mem_dedup, List.mem_filter]
  simp
theorem rid_asc (lots : List (List Nat)) (many : Nat) : AscT (rid lots many) := by
  rw [rid_eq]
  have h1 := dedup_nodup ((every lots many).filter fun L => decide (wider (every lots many) L = []))
  have h2 : (dedup ((every lots many).filter fun L => decide (wider (every lots many) L = []))).Pairwise fun a b => leN a b = true :=
    ((srtT_pw _).sublist List.filter_sublist).sublist (dedup_sub _)
  refine (h2.and h1).imp fun {a b} q => ?_
  rcases ltN_tri a b with h | h | h
  · exact h
  · exact absurd h q.2
  · have := q.1
    unfold leN at this
    rw [h] at this; cases this
/-- lots with which rid is asked -/
structure Lots (many : Nat) (lots : List (List Nat)) : Prop where
  asc : ∀ L ∈ lots, AscI L ∧ L ≠ []
  lt : ∀ L ∈ lots, ∀ x ∈ L, x < many
theorem TL.lots {many : Nat} {fs : List (List Nat)} (h : TL many fs) : Lots many fs := ⟨h.asc, h.lt⟩
section
variable {many : Nat} {lots : List (List Nat)} (h : Lots many lots)
include h
theorem Lots.ev {L : List Nat} (hL : L ∈ every lots many) : (AscI L ∧ L ≠ []) ∧ ∀ x ∈ L, x < many := by
  rcases mem_every.mp hL with q | ⟨k, hk, _, rfl⟩
  · exact ⟨h.asc L q, h.lt L q⟩
  · exact ⟨⟨List.pairwise_singleton _ _, by simp⟩, fun x hx => by rw [List.mem_singleton] at hx; omega⟩
theorem Lots.evLen {L : List Nat} (hL : L ∈ every lots many) : L.length ≤ many := by
  have := nodup_sub_len (m := List.range many) (asc_nodup (h.ev hL).1.1) fun x hx => List.mem_range.mpr ((h.ev hL).2 x hx)
  rwa [List.length_range] at this
theorem Lots.above : ∀ (n : Nat) (L : List Nat), L ∈ every lots many → many - L.length ≤ n → ∃ C ∈ rid lots many, ∀ x ∈ L, x ∈ C := by
  intro n
  induction n with
  | zero =>
    intro L hL hn
    refine ⟨L, mem_rid.mpr ⟨hL, ?_⟩, fun x hx => hx⟩
    unfold wider
    rw [List.filter_eq_nil_iff]
    intro E hE
    have := h.evLen hE
    simp only [Bool.and_eq_true, decide_eq_true_eq, not_and]
    intro q; omega
  | succ n ih =>
    intro L hL hn
    by_cases hw : wider (every lots many) L = []
    · exact ⟨L, mem_rid.mpr ⟨hL, hw⟩, fun x hx => hx⟩
    · obtain ⟨E, hE⟩ := List.exists_mem_of_ne_nil _ hw
      unfold wider at hE
      obtain ⟨h1, h2⟩ := List.mem_filter.mp hE
      simp only [Bool.and_eq_true, decide_eq_true_eq] at h2
      obtain ⟨C, hC, hs⟩ := ih E h1 (by omega)
      exact ⟨C, hC, fun x hx => hs x (common_eq.mp h2.2 x hx)⟩
theorem Lots.up {L : List Nat} (hL : L ∈ lots) : ∃ C ∈ rid lots many, ∀ x ∈ L, x ∈ C := h.above _ L (mem_every.mpr (.inl hL)) (Nat.le_refl _)
theorem Lots.cover {k : Nat} (hk : k < many) : ∃ C ∈ rid lots many, k ∈ C := by
  by_cases q : k ∈ lots.flatten
  · obtain ⟨L, hL, hx⟩ := List.mem_flatten.mp q
    obtain ⟨C, hC, hs⟩ := h.up hL
    exact ⟨C, hC, hs k hx⟩
  · obtain ⟨C, hC, hs⟩ := h.above _ [k] (mem_every.mpr (.inr ⟨k, hk, q, rfl⟩)) (Nat.le_refl _)
    exact ⟨C, hC, hs k (by simp)⟩
theorem Lots.anti {a b : List Nat} (ha : a ∈ rid lots many) (hb : b ∈ rid lots many) (ne : a ≠ b) : ¬ ∀ k ∈ a, k ∈ b := by
  intro hs
  obtain ⟨ha1, ha2⟩ := mem_rid.mp ha
  obtain ⟨hb1, hb2⟩ := mem_rid.mp hb
  have na := asc_nodup (h.ev ha1).1.1
  have hl := nodup_sub_len na hs
  by_cases q : a.length < b.length
  · have : b ∈ wider (every lots many) a := by
      unfold wider
      rw [List.mem_filter]
      refine ⟨hb1, ?_⟩
      simp only [Bool.and_eq_true, decide_eq_true_eq]
      exact ⟨q, common_eq.mpr hs⟩
    rw [ha2] at this
    cases this
  · have e : a.length = b.length := by omega
    have back := nodup_sub_eq na (asc_nodup (h.ev hb1).1.1) hs (by omega)
    exact ne (ascI_ext (h.ev ha1).1.1 (h.ev hb1).1.1 fun x => ⟨hs x, back x⟩)
theorem Lots.world {sizes : List Nat} (hl : sizes.length = many) (h1 : 1 ≤ many) (h6 : many ≤ 6) (he : ∀ s ∈ sizes, 2 ≤ s ∧ s ≤ 4) (hp : prod sizes ≤ 64) : WorldOk sizes (rid lots many) where
  some := by rw [hl]; exact ⟨h1, h6⟩
  each := he
  prod := hp
  asc := fun c hc => (h.ev (mem_rid.mp hc).1).1.1
  lt := fun c hc k hk => by rw [hl]; exact (h.ev (mem_rid.mp hc).1).2 k hk
  ne := fun c hc => (h.ev (mem_rid.mp hc).1).1.2
  ascT := rid_asc _ _
  part := fun a ha b hb ne => h.anti ha hb ne
  all := fun k hk => h.cover (by rw [← hl]; exact hk)
end
end BT

/-! ## text M4 -/
set_option linter.all false
/-! M4: planted lots. -/
namespace BT
def prevOf (size j : Nat) : Nat := if j = 0 then size - 1 else j - 1
def baseAt (ring : Bool) (corner : List Nat) (j : Nat) : List Nat :=
  if ring = true then [corner.getD (prevOf corner.length j) 0, corner.getD j 0] else corner.filter fun k => !decide (k = corner.getD j 0)
structure PL (many : Nat) (ring : Bool) (corner : List Nat) (fs : List (List Nat)) : Prop where
  len : fs.length = corner.length ∨ fs.length = corner.length + 1
  nd : ∀ L ∈ fs, L.Nodup ∧ L ≠ [] ∧ ∀ x ∈ L, x < many
  base : ∀ (j : Nat) L, fs[j]? = some L → j < corner.length → ∀ x, (x ∈ L ∧ x ∈ corner) ↔ x ∈ baseAt ring corner j
  one : ∀ L, fs[corner.length]? = some L → ∃ c ∈ corner, ∀ x, x ∈ L → x ∈ corner → x = c
theorem getD_mem {l : List Nat} {i : Nat} (h : i < l.length) : l.getD i 0 ∈ l := by
  rw [List.getD_eq_getElem?_getD, List.getElem?_eq_getElem h]
  exact List.getElem_mem h
theorem nodup_getD {l : List Nat} (h : l.Nodup) {i j : Nat} (hi : i < l.length) (hj : j < l.length) (e : l.getD i 0 = l.getD j 0) : i = j := by
  rw [List.getD_eq_getElem?_getD, List.getElem?_eq_getElem hi, List.getD_eq_getElem?_getD, List.getElem?_eq_getElem hj] at e
  simp only [Option.getD_some] at e
  have pw := List.pairwise_iff_getElem.mp h
  rcases Nat.lt_trichotomy i j with q | q | q
  · exact absurd e (pw i j hi hj q)
  · exact q
  · exact absurd e.symm (pw j i hj hi q)
theorem prev_lt {size j : Nat} (h : j < size) : prevOf size j < size := by unfold prevOf; split <;> omega
theorem prev_ne {size j : Nat} (h : j < size) (h2 : 2 ≤ size) : prevOf size j ≠ j := by unfold prevOf; split <;> omega
theorem base_sub {ring : Bool} {corner : List Nat} {j : Nat} (hj : j < corner.length) : ∀ x ∈ baseAt ring corner j, x ∈ corner := by
  intro x hx
  unfold baseAt at hx
  split at hx
  · rcases List.mem_cons.mp hx with rfl | hx
    · exact getD_mem (prev_lt hj)
    · rw [List.mem_singleton] at hx
      subst hx
      exact getD_mem hj
  · exact (List.mem_filter.mp hx).1
theorem base_nodup {ring : Bool} {corner : List Nat} {j : Nat} (hc : corner.Nodup) (hj : j < corner.length) (h3 : 2 ≤ corner.length) : (baseAt ring corner j).Nodup ∧ baseAt ring corner j ≠ [] := by
  unfold baseAt
  split
  · refine ⟨?_, by simp⟩
    rw [List.nodup_cons]
    refine ⟨fun q => ?_, by simp⟩
    rw [List.mem_singleton] at q
    exact prev_ne hj h3 (nodup_getD hc (prev_lt hj) hj q)
  · refine ⟨hc.filter _, fun e => ?_⟩
    rw [List.filter_eq_nil_iff] at e
    have := e _ (getD_mem (prev_lt hj))
    simp only [Bool.not_eq_true', decide_eq_false_iff_not, Decidable.not_not] at this
    exact prev_ne hj h3 (nodup_getD hc (prev_lt hj) hj this)
theorem PL.start {many : Nat} {ring : Bool} {corner : List Nat} (hc : corner.Nodup) (hm : ∀ x ∈ corner, x < many) (h3 : 2 ≤ corner.length) : PL many ring corner ((List.range corner.length).map (baseAt ring corner)) where
  len := .inl (by simp)
  nd := fun L hL => by
    obtain ⟨j, hj, rfl⟩ := List.mem_map.mp hL
    have hj := List.mem_range.mp hj
    exact ⟨(base_nodup hc hj h3).1, (base_nodup hc hj h3).2, fun x hx => hm x (base_sub hj x hx)⟩
  base := fun j L h hj x => by
    rw [List.getElem?_map, List.getElem?_range hj] at h
    cases h
    exact ⟨fun q => q.1, fun q => ⟨q, base_sub hj x q⟩⟩
  one := fun L h => by
    rw [List.getElem?_eq_none (by simp)] at h
    cases h
theorem PL.snoc {many : Nat} {ring : Bool} {corner : List Nat} {fs : List (List Nat)} {c : Nat} (h : PL many ring corner fs) (hl : fs.length = corner.length) (hc : c ∈ corner) (hm : c < many) : PL many ring corner (fs ++ [[c]]) where
  len := .inr (by simp [hl])
  nd := fun L hL => by
    rcases List.mem_append.mp hL with q | q
    · exact h.nd L q
    · rw [List.mem_singleton] at q
      subst q
      exact ⟨by simp, by simp, fun x hx => by rw [List.mem_singleton] at hx; omega⟩
  base := fun j L hL hj x => by
    rw [List.getElem?_append_left (by omega)] at hL
    exact h.base j L hL hj x
  one := fun L hL => by
    rw [List.getElem?_append_right (by omega), hl, Nat.sub_self] at hL
    cases hL
    exact ⟨c, hc, fun x hx _ => List.mem_singleton.mp hx⟩
theorem PL.add {many : Nat} {ring : Bool} {corner : List Nat} {fs : List (List Nat)} {j e : Nat} {L : List Nat} (h : PL many ring corner fs) (hL : fs[j]? = some L) (he : e ∉ L) (hc : e ∉ corner) (hm : e < many) : PL many ring corner (fs.set j (L ++ [e])) where
  len := by rw [List.length_set]; exact h.len
  nd := fun M hM => by
    rcases List.mem_or_eq_of_mem_set hM with q | rfl
    · exact h.nd M q
    · obtain ⟨h1, h2, h3⟩ := h.nd L (List.mem_of_getElem? hL)
      refine ⟨List.nodup_append.mpr ⟨h1, by simp, fun a ha b hb q => ?_⟩, by simp, fun x hx => ?_⟩
      · rw [List.mem_singleton] at hb
        subst hb q
        exact he ha
      · rcases List.mem_append.mp hx with q | q
        · exact h3 x q
        · rw [List.mem_singleton] at q; omega
  base := fun i M hM hi x => by
    by_cases q : j = i
    · subst q
      rw [List.getElem?_set_self (List.getElem?_eq_some_iff.mp hL).1] at hM
      cases hM
      rw [← h.base j L hL hi x, List.mem_append, List.mem_singleton]
      constructor
      · rintro ⟨z | rfl, y⟩
        · exact ⟨z, y⟩
        · exact absurd y hc
      · rintro ⟨z, y⟩
        exact ⟨.inl z, y⟩
    · rw [List.getElem?_set_ne q] at hM
      exact h.base i M hM hi x
  one := fun M hM => by
    by_cases q : j = corner.length
    · subst q
      rw [List.getElem?_set_self (List.getElem?_eq_some_iff.mp hL).1] at hM
      cases hM
      obtain ⟨c, h1, h2⟩ := h.one L hL
      refine ⟨c, h1, fun x hx hxc => ?_⟩
      rcases List.mem_append.mp hx with z | z
      · exact h2 x z hxc
      · rw [List.mem_singleton] at z
        subst z
        exact absurd hxc hc
    · rw [List.getElem?_set_ne q] at hM
      exact h.one M hM
theorem rid_len (lots : List (List Nat)) (many : Nat) : (rid lots many).length ≤ lots.length + many := by
  rw [rid_eq]
  refine Nat.le_trans (dedup_len _) (Nat.le_trans (List.length_filter_le _ _) ?_)
  unfold every
  rw [(srtT_perm _).length_eq, List.length_append, List.length_map]
  have := List.length_filter_le (fun k => !decide (k ∈ lots.flatten)) (List.range many)
  rw [List.length_range] at this
  omega
end BT

/-! ## text M5 -/
set_option linter.all false
/-! M5: trees extend everywhere; what is shrunk agrees. -/
namespace BT
/-! ### sections as functions -/
def vl (lot c : List Nat) (k : Nat) : Nat := c.getD (lot.idxOf k) 0
theorem idxOf_at {l : List Nat} (h : l.Nodup) {i : Nat} (hi : i < l.length) : l.idxOf l[i] = i := by
  have h1 : l.idxOf l[i] < l.length := List.idxOf_lt_length_iff.mpr (List.getElem_mem hi)
  have h2 : l[l.idxOf l[i]] = l[i] := List.getElem_idxOf h1
  have pw := List.pairwise_iff_getElem.mp h
  rcases Nat.lt_trichotomy (l.idxOf l[i]) i with q | q | q
  · exact absurd h2 (pw _ _ h1 hi q)
  · exact q
  · exact absurd h2.symm (pw _ _ hi h1 q)
theorem map_vl {lot c : List Nat} (h : lot.Nodup) (hl : c.length = lot.length) : lot.map (vl lot c) = c := by
  apply List.ext_getElem
  · rw [List.length_map, hl]
  · intro i h1 h2
    rw [List.getElem_map]
    unfold vl
    rw [idxOf_at h (by rw [← hl]; exact h2), List.getD_eq_getElem?_getD, List.getElem?_eq_getElem h2]
    rfl
theorem vl_map {lot : List Nat} {h : Nat → Nat} {k : Nat} (hk : k ∈ lot) : vl lot (lot.map h) k = h k := by
  unfold vl
  have h1 : lot.idxOf k < lot.length := List.idxOf_lt_length_iff.mpr hk
  rw [List.getD_eq_getElem?_getD, List.getElem?_eq_getElem (by rw [List.length_map]; exact h1), List.getElem_map, List.getElem_idxOf h1]
  rfl
theorem part_map {lot S : List Nat} {h : Nat → Nat} (hs : ∀ k ∈ S, k ∈ lot) : part (lot.map h) lot S = S.map h := by
  unfold part
  apply List.map_congr_left
  intro k hk
  exact vl_map (hs k hk)
theorem part_vl (lot c S : List Nat) : part c lot S = S.map (vl lot c) := rfl
theorem told_fn (g lot : List Nat) : told g lot = lot.map fun k => g.getD k 0 := rfl
theorem map_eq_on {S : List Nat} {h h' : Nat → Nat} (e : S.map h = S.map h') : ∀ x ∈ S, h x = h' x := by
  intro x hx
  induction S with
  | nil => cases hx
  | cons a S ih =>
    rw [List.map_cons, List.map_cons] at e
    injection e with e1 e2
    rcases List.mem_cons.mp hx with rfl | hx
    · exact e1
    · exact ih e2 hx
/-! ### rows that agree -/
def Con (ctx : List (List Nat)) (rows : List (List (List Nat))) : Prop :=
  ∀ i j, i < ctx.length → j < ctx.length → ∀ h : Nat → Nat, (lotOf ctx i).map h ∈ rowOf rows i → ∃ h' : Nat → Nat, (lotOf ctx j).map h' ∈ rowOf rows j ∧ ∀ x ∈ lotOf ctx i, x ∈ lotOf ctx j → h' x = h x
/-! ### gluing along a tree -/
theorem glue {Cs : List (List Nat)} {R : List Nat → (Nat → Nat) → Prop} (con : ∀ C ∈ Cs, ∀ C' ∈ Cs, ∀ h, R C h → ∃ h', R C' h' ∧ ∀ x ∈ C, x ∈ C' → h' x = h x) {cf : List Nat → List Nat} {fs : List (List Nat)} (rip : Rip fs) :
    (∀ L ∈ fs, cf L ∈ Cs ∧ ∀ x ∈ L, x ∈ cf L) → ∀ L ∈ fs, ∀ h, R (cf L) h → ∃ g : Nat → Nat, (∀ x ∈ L, g x = h x) ∧ ∀ K ∈ fs, ∃ hk, R (cf K) hk ∧ ∀ x ∈ K, g x = hk x := by
  induction rip with
  | one L =>
    intro up K hK h hR
    rw [List.mem_singleton] at hK
    subst hK
    exact ⟨h, fun _ _ => rfl, fun M hM => by rw [List.mem_singleton] at hM; subst hM; exact ⟨h, hR, fun _ _ => rfl⟩⟩
  | @snoc ls L Lp rip hp hcond ih =>
    intro up L0 hL0 h hR
    have upl : ∀ L ∈ ls, cf L ∈ Cs ∧ ∀ x ∈ L, x ∈ cf L := fun M hM => up M (List.mem_append_left _ hM)
    have upL := up L (List.mem_append_right _ (List.mem_singleton.mpr rfl))
    have upP := upl Lp hp
    rcases List.mem_append.mp hL0 with q | q
    · obtain ⟨g, g1, g2⟩ := ih upl L0 q h hR
      obtain ⟨hp', r1, r2⟩ := g2 Lp hp
      obtain ⟨h', s1, s2⟩ := con _ upP.1 _ upL.1 hp' r1
      have old : ∀ K ∈ ls, ∀ x ∈ K, (if x ∈ L then h' x else g x) = g x := fun K hK x hx => by
        by_cases y : x ∈ L
        · rw [if_pos y]
          have hxp := hcond x y ⟨K, hK, hx⟩
          rw [s2 x (upP.2 x hxp) (upL.2 x y), r2 x hxp]
        · rw [if_neg y]
      refine ⟨fun x => if x ∈ L then h' x else g x, fun x hx => by show (if x ∈ L then h' x else g x) = h x; rw [old L0 q x hx, g1 x hx], fun K hK => ?_⟩
      rcases List.mem_append.mp hK with z | z
      · obtain ⟨hk, t1, t2⟩ := g2 K z
        exact ⟨hk, t1, fun x hx => by show (if x ∈ L then h' x else g x) = hk x; rw [old K z x hx, t2 x hx]⟩
      · rw [List.mem_singleton] at z
        subst z
        exact ⟨h', s1, fun x hx => if_pos hx⟩
    · rw [List.mem_singleton] at q
      subst q
      obtain ⟨hp', s1, s2⟩ := con _ upL.1 _ upP.1 h hR
      obtain ⟨g, g1, g2⟩ := ih upl Lp hp hp' s1
      have old : ∀ K ∈ ls, ∀ x ∈ K, (if x ∈ L0 then h x else g x) = g x := fun K hK x hx => by
        by_cases y : x ∈ L0
        · rw [if_pos y]
          have hxp := hcond x y ⟨K, hK, hx⟩
          rw [g1 x hxp, s2 x (upL.2 x y) (upP.2 x hxp)]
        · rw [if_neg y]
      refine ⟨fun x => if x ∈ L0 then h x else g x, fun x hx => if_pos hx, fun K hK => ?_⟩
      rcases List.mem_append.mp hK with z | z
      · obtain ⟨hk, t1, t2⟩ := g2 K z
        exact ⟨hk, t1, fun x hx => by show (if x ∈ L0 then h x else g x) = hk x; rw [old K z x hx, t2 x hx]⟩
      · rw [List.mem_singleton] at z
        subst z
        exact ⟨h, hR, fun x hx => if_pos hx⟩
theorem TL.mem_every {many : Nat} {fs : List (List Nat)} (h : TL many fs) {L : List Nat} : L ∈ every fs many ↔ L ∈ fs := by
  rw [BT.mem_every]
  constructor
  · rintro (q | ⟨k, hk, hn, _⟩)
    · exact q
    · obtain ⟨M, hM, hx⟩ := h.cov k hk
      exact absurd (List.mem_flatten.mpr ⟨M, hM, hx⟩) hn
  · exact .inl
/-- on the lots of a tree: every section extends -/
theorem TL.extend {many : Nat} {fs : List (List Nat)} (h : TL many fs) {R : List Nat → (Nat → Nat) → Prop} (con : ∀ C ∈ rid fs many, ∀ C' ∈ rid fs many, ∀ h, R C h → ∃ h', R C' h' ∧ ∀ x ∈ C, x ∈ C' → h' x = h x)
    {C : List Nat} (hC : C ∈ rid fs many) {f : Nat → Nat} (hf : R C f) : ∃ g : Nat → Nat, (∀ x ∈ C, g x = f x) ∧ ∀ K ∈ rid fs many, ∃ hk, R K hk ∧ ∀ x ∈ K, g x = hk x := by
  have lots := h.lots
  have inF : ∀ {K}, K ∈ rid fs many → K ∈ fs := fun hK => h.mem_every.mp (mem_rid.mp hK).1
  classical
  have ch : ∀ L : List Nat, ∃ C, L ∈ fs → C ∈ rid fs many ∧ ∀ x ∈ L, x ∈ C := fun L => by
    by_cases q : L ∈ fs
    · obtain ⟨C, h1, h2⟩ := lots.up q
      exact ⟨C, fun _ => ⟨h1, h2⟩⟩
    · exact ⟨[], fun z => absurd z q⟩
  obtain ⟨cf, hcf⟩ := Classical.axiomOfChoice ch
  have cfC : ∀ {K}, K ∈ rid fs many → cf K = K := fun {K} hK => by
    obtain ⟨h1, h2⟩ := hcf K (inF hK)
    by_cases q : K = cf K
    · exact q.symm
    · exact absurd h2 (lots.anti hK h1 q)
  obtain ⟨g, g1, g2⟩ := glue con h.rip (fun L hL => hcf L hL) C (inF hC) f (by rw [cfC hC]; exact hf)
  refine ⟨g, g1, fun K hK => ?_⟩
  have := g2 K (inF hK)
  rw [cfC hK] at this
  exact this
/-! ### what is shrunk -/
def total (rows : List (List (List Nat))) : Nat := (rows.map List.length).sum
theorem sum_le_of {α : Type} {f g : α → Nat} : ∀ l : List α, (∀ x ∈ l, f x ≤ g x) → (l.map f).sum ≤ (l.map g).sum
  | [], _ => Nat.le_refl _
  | x :: l, h => by
    rw [List.map_cons, List.map_cons, List.sum_cons, List.sum_cons]
    exact Nat.add_le_add (h x List.mem_cons_self) (sum_le_of l fun y hy => h y (List.mem_cons_of_mem _ hy))
theorem sum_lt_of {α : Type} {f g : α → Nat} : ∀ l : List α, (∀ x ∈ l, f x ≤ g x) → (∃ x ∈ l, f x < g x) → (l.map f).sum < (l.map g).sum
  | [], _, ⟨x, hx, _⟩ => by cases hx
  | x :: l, h, ⟨y, hy, q⟩ => by
    rw [List.map_cons, List.map_cons, List.sum_cons, List.sum_cons]
    rcases List.mem_cons.mp hy with rfl | hy
    · exact Nat.add_lt_add_of_lt_of_le q (sum_le_of l fun z hz => h z (List.mem_cons_of_mem _ hz))
    · exact Nat.add_lt_add_of_le_of_lt (h x List.mem_cons_self) (sum_lt_of l (fun z hz => h z (List.mem_cons_of_mem _ hz)) ⟨y, hy, q⟩)
theorem rows_range (rows : List (List (List Nat))) : rows = (List.range rows.length).map (rowOf rows) := by
  apply List.ext_getElem
  · simp
  · intro i h1 h2
    rw [List.getElem_map, List.getElem_range]
    unfold rowOf
    rw [List.getD_eq_getElem?_getD, List.getElem?_eq_getElem h1]; rfl
theorem total_range (rows : List (List (List Nat))) : total rows = ((List.range rows.length).map fun i => (rowOf rows i).length).sum := by
  unfold total
  conv => lhs; rw [rows_range rows]
  rw [List.map_map]; rfl
theorem shrStep_total {ctx : List (List Nat)} {rows : List (List (List Nat))} (h : shrStep ctx rows ≠ rows) : total (shrStep ctx rows) < total rows := by
  rw [total_range rows]
  unfold total shrStep
  rw [List.map_map]
  refine sum_lt_of _ (fun i _ => List.length_filter_le _ _) ?_
  by_cases q : ∃ i ∈ List.range rows.length, (shrRow ctx rows i).length < (rowOf rows i).length
  · exact q
  · exfalso
    apply h
    conv => rhs; rw [rows_range rows]
    unfold shrStep
    apply List.map_congr_left
    intro i hi
    have : ¬ (shrRow ctx rows i).length < (rowOf rows i).length := fun z => q ⟨i, hi, z⟩
    exact List.filter_sublist.eq_of_length_le (by unfold shrRow at this; omega)
theorem shrN_fix {ctx : List (List Nat)} : ∀ (n : Nat) (rows : List (List (List Nat))), total rows ≤ n → shrStep ctx (shrN ctx n rows) = shrN ctx n rows
  | 0, rows, h => by
    show shrStep ctx rows = rows
    by_cases q : shrStep ctx rows = rows
    · exact q
    · have := shrStep_total q; omega
  | n + 1, rows, h => by
    unfold shrN
    by_cases q : shrStep ctx rows = rows
    · rw [if_pos q]; exact q
    · rw [if_neg q]
      exact shrN_fix n _ (by have := shrStep_total q; omega)
theorem rowOf_step {ctx : List (List Nat)} {rows : List (List (List Nat))} {i : Nat} (hi : i < rows.length) : rowOf (shrStep ctx rows) i = shrRow ctx rows i := by
  unfold rowOf shrStep
  rw [List.getD_eq_getElem?_getD, List.getElem?_map, List.getElem?_range hi]; rfl
theorem shrStep_len {ctx : List (List Nat)} {rows : List (List (List Nat))} : (shrStep ctx rows).length = rows.length := by
  unfold shrStep
  rw [List.length_map, List.length_range]
theorem shrN_sub {ctx : List (List Nat)} : ∀ (n : Nat) (rows : List (List (List Nat))), (shrN ctx n rows).length = rows.length ∧ ∀ i, i < rows.length → (rowOf (shrN ctx n rows) i).Sublist (rowOf rows i)
  | 0, rows => ⟨rfl, fun _ _ => List.Sublist.refl _⟩
  | n + 1, rows => by
    unfold shrN
    by_cases q : shrStep ctx rows = rows
    · rw [if_pos q]; exact ⟨rfl, fun _ _ => List.Sublist.refl _⟩
    · rw [if_neg q]
      obtain ⟨h1, h2⟩ := shrN_sub n (shrStep ctx rows)
      refine ⟨h1.trans shrStep_len, fun i hi => (h2 i (by rw [shrStep_len]; exact hi)).trans ?_⟩
      rw [rowOf_step hi]
      exact List.filter_sublist
theorem fix_con {ctx : List (List Nat)} {rows : List (List (List Nat))} (hl : rows.length = ctx.length) (nd : ∀ i, i < ctx.length → (lotOf ctx i).Nodup) (hc : ∀ i, i < ctx.length → ∀ c ∈ rowOf rows i, c.length = (lotOf ctx i).length) (h : shrStep ctx rows = rows) : Con ctx rows := by
  intro i j hi hj f hf
  have e := rowOf_step (ctx := ctx) (rows := rows) (i := i) (by omega)
  rw [h] at e
  rw [e] at hf
  unfold shrRow at hf
  have hall := (List.mem_filter.mp hf).2
  rw [List.all_eq_true] at hall
  have hj' := hall j (List.mem_range.mpr (by omega))
  unfold shrFits at hj'
  rw [decide_eq_true_eq] at hj'
  obtain ⟨c', hc', e'⟩ := List.mem_map.mp hj'
  refine ⟨vl (lotOf ctx j) c', by rw [map_vl (nd j hj) (hc j hj c' hc')]; exact hc', fun x hx hx' => ?_⟩
  rw [part_vl, part_map fun k hk => (mem_common'.mp hk).1] at e'
  exact map_eq_on e' x (mem_common'.mpr ⟨hx, hx'⟩)
end BT

/-! ## text DL1 -/
set_option Elab.async false
set_option linter.all false
set_option maxRecDepth 100000
set_option maxHeartbeats 4000000
/-! DL1: a data logic over the hand layer. Stores of data (PyData) by slots, a ledger of known objects, own lists, one bag. -/
namespace DL
open PySem PySem.Spec PyProof.Rows L2

def Ex (H H' : Hp) : Prop := ∀ a o, H a = some o → H' a = some o
theorem Ex.refl (H : Hp) : Ex H H := fun _ _ h => h
theorem Ex.trans {H H1 H2 : Hp} (a : Ex H H1) (b : Ex H1 H2) : Ex H H2 := fun x o h => b x o (a x o h)
theorem Ex.new {H : Hp} {p : Addr} {o : HO} (h : H p = none) : Ex H (upd H p o) := fun a u e => by
  rw [upd_ne (ne_of_none e h)]; exact e
theorem Ex.both {G H : Hp} {p : Addr} {o : HO} (e : Ex G H) : Ex (upd G p o) (upd H p o) := fun a u h => by
  by_cases q : a = p
  · subst q; rw [upd_same] at h ⊢; exact h
  · rw [upd_ne q] at h ⊢; exact e a u h
theorem Ex.mut {G H : Hp} {p : Addr} {o : HO} (e : Ex G H) (h : G p = none) : Ex G (upd H p o) := fun a u ha => by
  rw [upd_ne (ne_of_none ha h)]; exact e a u ha
theorem Ex.none {G H : Hp} {p : Addr} (e : Ex G H) (h : H p = none) : G p = none := by
  cases q : G p with
  | none => rfl
  | some o => rw [e p o q] at h; cases h

mutual
/-- the value v is the datum d, by objects that G knows -/
inductive At (G : Hp) : V → PyData → Prop
  | non : At G .non .none
  | bl (b : Bool) : At G (.bl b) (.bool b)
  | int (i : Int) : At G (.int i) (.int i)
  | str (x : Str) : At G (.str x) (.str x)
  | lst {a : Addr} {xs : List V} {ds : List PyData} : G a = some (.lst xs) → AtAll G xs ds → At G (.ref a) (.list ds)
  | tup {a : Addr} {o : Obj} {xs : List V} {ds : List PyData} : G a = some (.frz o (.tup xs)) → o.dict = Option.none → AtAll G xs ds → At G (.ref a) (.tuple ds)
inductive AtAll (G : Hp) : List V → List PyData → Prop
  | nil : AtAll G [] []
  | cons {v : V} {vs : List V} {d : PyData} {ds : List PyData} : At G v d → AtAll G vs ds → AtAll G (v :: vs) (d :: ds)
end
mutual
theorem At.mono {G G' : Hp} (e : Ex G G') : ∀ {v : V} {d : PyData}, At G v d → At G' v d
  | _, _, .non => .non
  | _, _, .bl b => .bl b
  | _, _, .int i => .int i
  | _, _, .str x => .str x
  | _, _, .lst h a => .lst (e _ _ h) (AtAll.mono e a)
  | _, _, .tup h d a => .tup (e _ _ h) d (AtAll.mono e a)
theorem AtAll.mono {G G' : Hp} (e : Ex G G') : ∀ {vs : List V} {ds : List PyData}, AtAll G vs ds → AtAll G' vs ds
  | _, _, .nil => .nil
  | _, _, .cons h t => .cons (At.mono e h) (AtAll.mono e t)
end
mutual
theorem At.dp {K : PySem.W.Frag} {G : Hp} : ∀ {v : V} {d : PyData}, At G v d → Dp K G v d
  | _, _, .non => .non
  | _, _, .bl b => .bl b
  | _, _, .int i => .int i
  | _, _, .str x => .str x
  | _, _, .lst h a => .lst (SqL.of h) (AtAll.dp a)
  | _, _, .tup h _ a => .tup (.inl (.inr ⟨_, h⟩)) (AtAll.dp a)
theorem AtAll.dp {K : PySem.W.Frag} {G : Hp} : ∀ {vs : List V} {ds : List PyData}, AtAll G vs ds → DpAll K G vs ds
  | _, _, .nil => .nil
  | _, _, .cons h t => .cons (At.dp h) (AtAll.dp t)
end
theorem AtAll.length {G : Hp} : ∀ {vs : List V} {ds : List PyData}, AtAll G vs ds → vs.length = ds.length
  | _, _, .nil => rfl
  | _, _, .cons _ t => by rw [List.length_cons, List.length_cons, AtAll.length t]
theorem AtAll.get {G : Hp} : ∀ {vs : List V} {ds : List PyData} {i : Nat} {d : PyData}, AtAll G vs ds → ds[i]? = some d → ∃ v, vs[i]? = some v ∧ At G v d
  | _, _, _, _, .nil, h => by simp at h
  | _, _, 0, _, .cons h t, e => by simp at e; subst e; exact ⟨_, rfl, h⟩
  | _, _, i + 1, _, .cons h t, e => by
    obtain ⟨v, h1, h2⟩ := AtAll.get (i := i) t (by simpa using e)
    exact ⟨v, by simpa using h1, h2⟩
theorem AtAll.getV {G : Hp} : ∀ {vs : List V} {ds : List PyData} {i : Nat} {v : V}, AtAll G vs ds → vs[i]? = some v → ∃ d, ds[i]? = some d ∧ At G v d
  | _, _, _, _, .nil, h => by simp at h
  | _, _, 0, _, .cons h t, e => by simp at e; subst e; exact ⟨_, rfl, h⟩
  | _, _, i + 1, _, .cons h t, e => by
    obtain ⟨v, h1, h2⟩ := AtAll.getV (i := i) t (by simpa using e)
    exact ⟨v, by simpa using h1, h2⟩
theorem AtAll.append {G : Hp} : ∀ {vs ws : List V} {ds es : List PyData}, AtAll G vs ds → AtAll G ws es → AtAll G (vs ++ ws) (ds ++ es)
  | _, _, _, _, .nil, s => s
  | _, _, _, _, .cons h t, s => .cons h (AtAll.append t s)
theorem AtAll.take {G : Hp} : ∀ {vs : List V} {ds : List PyData} (n : Nat), AtAll G vs ds → AtAll G (vs.take n) (ds.take n)
  | _, _, 0, _ => .nil
  | _, _, _ + 1, .nil => .nil
  | _, _, n + 1, .cons h t => .cons h (AtAll.take n t)
theorem AtAll.drop {G : Hp} : ∀ {vs : List V} {ds : List PyData} (n : Nat), AtAll G vs ds → AtAll G (vs.drop n) (ds.drop n)
  | _, _, 0, r => r
  | _, _, _ + 1, .nil => .nil
  | _, _, n + 1, .cons _ t => AtAll.drop n t
theorem AtAll.set {G : Hp} {v : V} {d : PyData} (h : At G v d) : ∀ {vs : List V} {ds : List PyData} (i : Nat), AtAll G vs ds → AtAll G (vs.set i v) (ds.set i d)
  | _, _, _, .nil => .nil
  | _, _, 0, .cons _ t => .cons h t
  | _, _, i + 1, .cons q t => .cons q (AtAll.set h i t)
theorem AtAll.eraseIdx {G : Hp} : ∀ {vs : List V} {ds : List PyData} (i : Nat), AtAll G vs ds → AtAll G (vs.eraseIdx i) (ds.eraseIdx i)
  | _, _, _, .nil => .nil
  | _, _, 0, .cons _ t => t
  | _, _, i + 1, .cons q t => .cons q (AtAll.eraseIdx i t)
theorem AtAll.ints {G : Hp} : ∀ {vs : List V} {ns : List Int}, AtAll G vs (ns.map PyData.int) → vs = ns.map V.int
  | [], [], _ => rfl
  | _ :: _, n :: ns, .cons (.int _) t => by rw [List.map_cons, AtAll.ints t]
theorem AtAll.bls {G : Hp} : ∀ {vs : List V} {ns : List Bool}, AtAll G vs (ns.map PyData.bool) → vs = ns.map V.bl
  | [], [], _ => rfl
  | _ :: _, n :: ns, .cons (.bl _) t => by rw [List.map_cons, AtAll.bls t]
theorem AtAll.ofInts {G : Hp} : ∀ (ns : List Int), AtAll G (ns.map V.int) (ns.map PyData.int)
  | [] => .nil
  | n :: ns => .cons (.int n) (AtAll.ofInts ns)

/-- a datum, or a pair that was just made -/
inductive Atw (G : Hp) : V → PyData → Prop
  | base {v : V} {d : PyData} : At G v d → Atw G v d
  | tup {a : Addr} {xs : List V} {ds : List PyData} : G a = some (.tup xs) → AtAll G xs ds → Atw G (.ref a) (.tuple ds)
theorem Atw.mono {G G' : Hp} (e : Ex G G') {v : V} {d : PyData} (h : Atw G v d) : Atw G' v d := by
  cases h with
  | base h => exact .base (h.mono e)
  | tup h a => exact .tup (e _ _ h) (a.mono e)
theorem At.sqT {K : PySem.W.Frag} {G H : Hp} (e : Ex G H) {v : V} {ds : List PyData} (h : At G v (.tuple ds)) : ∃ a o xs, v = .ref a ∧ H a = some (.frz o (.tup xs)) ∧ o.dict = none ∧ SqT K H a xs ∧ AtAll G xs ds := by
  cases h with
  | tup h d a => exact ⟨_, _, _, rfl, e _ _ h, d, .inl (.inr ⟨_, e _ _ h⟩), a⟩
theorem Atw.sqT {K : PySem.W.Frag} {G H : Hp} (e : Ex G H) {v : V} {ds : List PyData} (h : Atw G v (.tuple ds)) : ∃ a xs, v = .ref a ∧ SqT K H a xs ∧ AtAll G xs ds := by
  cases h with
  | base h =>
    obtain ⟨a, o, xs, h1, h2, h3, h4, h5⟩ := h.sqT (K := K) e
    exact ⟨a, xs, h1, h4, h5⟩
  | tup h a => exact ⟨_, _, rfl, .inl (.inl (e _ _ h)), a⟩
theorem At.sqL {K : PySem.W.Frag} {G H : Hp} (e : Ex G H) {v : V} {ds : List PyData} (h : At G v (.list ds)) : ∃ a xs, v = .ref a ∧ H a = some (.lst xs) ∧ SqL K H a xs ∧ AtAll G xs ds := by
  cases h with
  | lst h a => exact ⟨_, _, rfl, e _ _ h, .inl (.inl (e _ _ h)), a⟩
/-- the bag of draws: three ints -/
def BagAt (H : Hp) (b : Option Addr) : Prop := ∀ a, b = some a → ∃ g s t : Int, H a = some (.lst [.int g, .int s, .int t])

/-- from (G, H) to (G', H'): the ledger grows by new objects; of H all is kept but the bag -/
structure Grow (b : Option Addr) (G H G' H' : Hp) : Prop where
  g : Ex G G'
  e : Ex G' H'
  f : ∀ a, H a ≠ none → G' a = G a
  h : ∀ a o, b ≠ some a → H a = some o → H' a = some o
  bg : BagAt H b → BagAt H' b
theorem Grow.refl {b : Option Addr} {G H : Hp} (e : Ex G H) : Grow b G H G H := ⟨Ex.refl _, e, fun _ _ => rfl, fun _ _ _ h => h, fun h => h⟩
theorem Grow.trans {b : Option Addr} {G H G1 H1 G2 H2 : Hp} (hb : BagAt H b) (x : Grow b G H G1 H1) (y : Grow b G1 H1 G2 H2) : Grow b G H G2 H2 where
  g := x.g.trans y.g
  e := y.e
  f := fun a n => by
    have n1 : H1 a ≠ none := by
      by_cases q : b = some a
      · obtain ⟨g, s, t, e⟩ := x.bg hb a q
        rw [e]; exact fun z => nomatch z
      · cases e : H a with
        | none => exact absurd e n
        | some o => rw [x.h a o q e]; exact fun z => nomatch z
    rw [y.f a n1, x.f a n]
  h := fun a o q e => y.h a o q (x.h a o q e)
  bg := fun z => y.bg (x.bg z)
/-- what changes no bag -/
theorem Grow.any {b : Option Addr} {G H G' H' : Hp} (x : Grow none G H G' H') : Grow b G H G' H' :=
  ⟨x.g, x.e, x.f, fun a o _ => x.h a o (fun z => nomatch z), fun z a q => by
    obtain ⟨g, s, t, e⟩ := z a q
    exact ⟨g, s, t, x.h a _ (fun z => nomatch z) e⟩⟩
/-- a new known object -/
theorem Grow.new {b : Option Addr} {G H : Hp} {p : Addr} {o : HO} (e : Ex G H) (hp : H p = none) : Grow b G H (upd G p o) (upd H p o) := by
  refine Grow.any ⟨Ex.new (e.none hp), e.both, fun a n => ?_, fun a u _ q => Ex.new hp a u q, fun _ a q => nomatch q⟩
  have : a ≠ p := fun z => by subst z; exact n hp
  rw [upd_ne this]
/-- a new object that the ledger does not know -/
theorem Grow.hid {b : Option Addr} {G H : Hp} {p : Addr} {o : HO} (e : Ex G H) (hp : H p = none) : Grow b G H G (upd H p o) :=
  Grow.any ⟨Ex.refl _, e.trans (Ex.new hp), fun a n => rfl, fun a u _ q => Ex.new hp a u q, fun _ a q => nomatch q⟩
theorem Grow.bag {b : Option Addr} {G H G' H' : Hp} (x : Grow b G H G' H') (z : BagAt H b) : BagAt H' b := x.bg z
theorem Grow.none {b : Option Addr} {G H G' H' : Hp} (hb : BagAt H b) (x : Grow b G H G' H') {p : Addr} (n : H' p = none) : H p = none := by
  cases e : H p with
  | none => rfl
  | some o =>
    by_cases q : b = some p
    · obtain ⟨g, s, t, e⟩ := x.bg hb p q
      rw [n] at e; cases e
    · rw [x.h p o q e] at n; cases n

/-! ### stores -/
/-- a slot: a datum that the ledger knows; an own list; the bag; a value as it stands -/
inductive Sl where
  | dat (d : PyData) | own (ds : List PyData) | bag | raw (v : V)
abbrev Rho := List (Option Sl)
structure Ctx where
  b : Option Addr
  G0 : Hp
  H0 : Hp
  n : Nat
def SlAt (c : Ctx) (G H : Hp) : Sl → V → Prop
  | .dat d, v => At G v d
  | .own ds, v => ∃ p vs, v = .ref p ∧ H p = some (.lst vs) ∧ G p = none ∧ c.H0 p = none ∧ c.b ≠ some p ∧ AtAll G vs ds
  | .bag, v => ∃ p, v = .ref p ∧ c.b = some p
  | .raw w, v => v = w
structure St (c : Ctx) (G : Hp) (σ : L2.St) (H : Hp) (ρ : Rho) : Prop where
  len : σ.length = c.n
  gr : Grow c.b c.G0 c.H0 G H
  bag : BagAt H c.b
  bag0 : BagAt c.H0 c.b
  bagG : ∀ a, c.b = some a → G a = none
  sl : ∀ (i : Nat) (s : Sl), ρ[i]? = some (some s) → ∃ v, σ[i]? = some (some v) ∧ SlAt c G H s v
  ne : ∀ (i j : Nat) (ds es : List PyData) (p : Addr), i ≠ j → ρ[i]? = some (some (.own ds)) → ρ[j]? = some (some (.own es)) → σ[i]? = some (some (.ref p)) → σ[j]? = some (some (.ref p)) → False
section
variable {c : Ctx} {G G' H H' : Hp} {σ : L2.St} {ρ : Rho}
theorem SlAt.grow (x : Grow c.b G H G' H') {s : Sl} {v : V} (h : SlAt c G H s v) : SlAt c G' H' s v := by
  cases s with
  | dat d => exact At.mono x.g h
  | own ds =>
    obtain ⟨p, vs, rfl, h1, h2, h3, h4, h5⟩ := h
    refine ⟨p, vs, rfl, x.h p _ h4 h1, ?_, h3, h4, h5.mono x.g⟩
    rw [x.f p (by rw [h1]; exact fun z => nomatch z)]
    exact h2
  | bag => exact h
  | raw w => exact h
theorem St.grow (S : St c G σ H ρ) (x : Grow c.b G H G' H') : St c G' σ H' ρ where
  len := S.len
  gr := S.gr.trans S.bag0 x
  bag := x.bg S.bag
  bag0 := S.bag0
  bagG := fun a q => by
    obtain ⟨g, s, t, e⟩ := S.bag a q
    rw [x.f a (by rw [e]; exact fun z => nomatch z)]
    exact S.bagG a q
  sl := fun i s h => by
    obtain ⟨v, h1, h2⟩ := S.sl i s h
    exact ⟨v, h1, h2.grow x⟩
  ne := S.ne
/-- a slot is given a new thing -/
theorem St.put (S : St c G σ H ρ) {i : Nat} {s : Sl} {v : V} (h : SlAt c G H s v) (hi : i < c.n)
    (hn : ∀ ds p, s = .own ds → v = .ref p → ∀ (j : Nat) (es : List PyData), j ≠ i → ρ[j]? = some (some (.own es)) → σ[j]? = some (some (.ref p)) → False) : St c G (σ.set i (some v)) H (ρ.set i (some s)) where
  len := by rw [List.length_set]; exact S.len
  gr := S.gr
  bag := S.bag
  bag0 := S.bag0
  bagG := S.bagG
  sl := fun j t q => by
    by_cases e : i = j
    · subst e
      have hl : i < ρ.length := by
        have := (List.getElem?_eq_some_iff.mp q).1
        rw [List.length_set] at this; exact this
      rw [List.getElem?_set_self hl] at q
      cases q
      exact ⟨v, by rw [List.getElem?_set_self (by rw [S.len]; exact hi)], h⟩
    · rw [List.getElem?_set_ne e] at q ⊢
      exact S.sl j t q
  ne := fun j k ds es p jk q1 q2 r1 r2 => by
    by_cases e : i = j
    · subst e
      have hl : i < ρ.length := by
        have := (List.getElem?_eq_some_iff.mp q1).1
        rw [List.length_set] at this; exact this
      rw [List.getElem?_set_self hl] at q1
      rw [List.getElem?_set_self (by rw [S.len]; exact hi)] at r1
      rw [List.getElem?_set_ne jk] at q2 r2
      cases q1; cases r1
      exact hn ds p rfl rfl k es (Ne.symm jk) q2 r2
    · rw [List.getElem?_set_ne e] at q1 r1
      by_cases e2 : i = k
      · subst e2
        have hl : i < ρ.length := by
          have := (List.getElem?_eq_some_iff.mp q2).1
          rw [List.length_set] at this; exact this
        rw [List.getElem?_set_self hl] at q2
        rw [List.getElem?_set_self (by rw [S.len]; exact hi)] at r2
        cases q2; cases r2
        exact hn es p rfl rfl j ds jk q1 r1
      · rw [List.getElem?_set_ne e2] at q2 r2
        exact S.ne j k ds es p jk q1 q2 r1 r2
theorem St.putD (S : St c G σ H ρ) {i : Nat} {d : PyData} {v : V} (h : At G v d) (hi : i < c.n) : St c G (σ.set i (some v)) H (ρ.set i (some (.dat d))) :=
  S.put (s := .dat d) h hi (fun _ _ e => nomatch e)
/-- an own list becomes a known one -/
theorem St.freezeP (S : St c G σ H ρ) {i : Nat} {ds : List PyData} (h : ρ[i]? = some (some (.own ds))) :
    ∃ p vs, G p = none ∧ H p = some (.lst vs) ∧ St c (upd G p (.lst vs)) σ H (ρ.set i (some (.dat (.list ds)))) := by
  obtain ⟨v, h1, p, vs, rfl, h2, h3, h4, h5, h6⟩ := S.sl i _ h
  have e : Ex G (upd G p (.lst vs)) := Ex.new h3
  have eH : Ex (upd G p (.lst vs)) H := fun a o q => by
    by_cases z : a = p
    · subst z; rw [upd_same] at q; cases q; exact h2
    · rw [upd_ne z] at q; exact S.gr.e a o q
  refine ⟨p, vs, h3, h2, ⟨S.len, ⟨S.gr.g.trans e, eH, fun a n => ?_, S.gr.h, S.gr.bg⟩, S.bag, S.bag0, fun a q => ?_, fun j s q => ?_, fun j k es fs r jk q1 q2 => ?_⟩⟩
  · rw [upd_ne (fun z => n (by rw [z]; exact h4))]
    exact S.gr.f a n
  · rw [upd_ne (fun z => h5 (by rw [q, z]))]
    exact S.bagG a q
  · by_cases z : i = j
    · subst z
      have hl : i < ρ.length := (List.getElem?_eq_some_iff.mp h).1
      rw [List.getElem?_set_self hl] at q
      cases q
      exact ⟨_, h1, At.lst upd_same (h6.mono e)⟩
    · rw [List.getElem?_set_ne z] at q
      obtain ⟨w, w1, w2⟩ := S.sl j s q
      refine ⟨w, w1, ?_⟩
      cases s with
      | dat d => exact At.mono e w2
      | own es =>
        obtain ⟨r, us, rfl, k1, k2, k3, k4, k5⟩ := w2
        refine ⟨r, us, rfl, k1, ?_, k3, k4, k5.mono e⟩
        rw [upd_ne (fun y => S.ne i j ds es p z h q h1 (by rw [w1, y]))]
        exact k2
      | bag => exact w2
      | raw w => exact w2
  · have hj : ρ[j]? = some (some (.own es)) := by
      by_cases z : i = j
      · subst z
        have hl : i < ρ.length := (List.getElem?_eq_some_iff.mp h).1
        rw [List.getElem?_set_self hl] at q1
        cases q1
      · rw [List.getElem?_set_ne z] at q1; exact q1
    have hk : ρ[k]? = some (some (.own fs)) := by
      by_cases z : i = k
      · subst z
        have hl : i < ρ.length := (List.getElem?_eq_some_iff.mp h).1
        rw [List.getElem?_set_self hl] at q2
        cases q2
      · rw [List.getElem?_set_ne z] at q2; exact q2
    exact S.ne j k es fs r jk hj hk
theorem St.freeze (S : St c G σ H ρ) {i : Nat} {ds : List PyData} (h : ρ[i]? = some (some (.own ds))) :
    ∃ G', Ex G G' ∧ St c G' σ H (ρ.set i (some (.dat (.list ds)))) := by
  obtain ⟨p, vs, h1, _, h2⟩ := S.freezeP h
  exact ⟨_, Ex.new h1, h2⟩
/-- an own list is changed -/
theorem St.mut (S : St c G σ H ρ) {i : Nat} {ds es : List PyData} {p : Addr} {us : List V} (h : ρ[i]? = some (some (.own ds))) (hs : σ[i]? = some (some (.ref p))) (hu : AtAll G us es) :
    St c G σ (upd H p (.lst us)) (ρ.set i (some (.own es))) := by
  obtain ⟨v, h1, p', vs, rfl, h2, h3, h4, h5, h6⟩ := S.sl i _ h
  rw [h1] at hs
  cases hs
  have hl : i < ρ.length := (List.getElem?_eq_some_iff.mp h).1
  refine ⟨S.len, ⟨S.gr.g, S.gr.e.mut h3, S.gr.f, fun a o n q => ?_, fun z a q => ?_⟩, fun a q => ?_, S.bag0, S.bagG, fun j s q => ?_, fun j k fs gs r jk q1 q2 => ?_⟩
  · rw [upd_ne (ne_of_none q h4)]
    exact S.gr.h a o n q
  · rw [upd_ne (fun y => h5 (by rw [q, y]))]
    exact S.gr.bg z a q
  · rw [upd_ne (fun y => h5 (by rw [q, y]))]
    exact S.bag a q
  · by_cases z : i = j
    · subst z
      rw [List.getElem?_set_self hl] at q
      cases q
      exact ⟨_, h1, p, us, rfl, upd_same, h3, h4, h5, hu⟩
    · rw [List.getElem?_set_ne z] at q
      obtain ⟨w, w1, w2⟩ := S.sl j s q
      refine ⟨w, w1, ?_⟩
      cases s with
      | dat d => exact w2
      | own es' =>
        obtain ⟨r, us', rfl, k1, k2, k3, k4, k5⟩ := w2
        refine ⟨r, us', rfl, ?_, k2, k3, k4, k5⟩
        rw [upd_ne (fun y => S.ne i j ds es' p z h q h1 (by rw [w1, y]))]
        exact k1
      | bag => exact w2
      | raw w => exact w2
  · have key : ∀ {m : Nat} {xs : List PyData}, (ρ.set i (some (Sl.own es)))[m]? = some (some (.own xs)) → ∃ ys, ρ[m]? = some (some (.own ys)) := by
      intro m xs q
      by_cases z : i = m
      · subst z; exact ⟨_, h⟩
      · rw [List.getElem?_set_ne z] at q; exact ⟨_, q⟩
    obtain ⟨_, k1⟩ := key q1
    obtain ⟨_, k2⟩ := key q2
    exact S.ne j k _ _ r jk k1 k2
/-- some slots forgotten -/
def wip (ρ : Rho) : List Nat → Rho
  | [] => ρ
  | v :: vs => (wip ρ vs).set v none
theorem wip_some {i : Nat} {x : Sl} : ∀ {vs : List Nat}, (wip ρ vs)[i]? = some (some x) → ρ[i]? = some (some x) ∧ i ∉ vs
  | [], h => ⟨h, by simp⟩
  | v :: vs, h => by
    unfold wip at h
    by_cases hi : v = i
    · subst hi
      by_cases hv : v < (wip ρ vs).length
      · rw [List.getElem?_set_self hv] at h; cases h
      · rw [List.getElem?_eq_none (by simpa using hv)] at h; cases h
    · rw [List.getElem?_set_ne hi] at h
      obtain ⟨h1, h2⟩ := wip_some h
      exact ⟨h1, by simp only [List.mem_cons, not_or]; exact ⟨fun e => hi e.symm, h2⟩⟩
theorem wipe_get {σ : L2.St} {i : Nat} : ∀ {vs : List Nat}, i ∉ vs → (wipe σ vs)[i]? = σ[i]?
  | [], _ => rfl
  | v :: vs, h => by
    unfold wipe
    rw [List.getElem?_set_ne (fun e => h (by rw [e]; exact List.mem_cons_self))]
    exact wipe_get fun q => h (List.mem_cons_of_mem _ q)
theorem wipe_in {σ : L2.St} {i : Nat} (hi : i < σ.length) : ∀ {vs : List Nat}, i ∈ vs → (wipe σ vs)[i]? = some none
  | v :: vs, h => by
    unfold wipe
    by_cases e : v = i
    · subst e
      rw [List.getElem?_set_self (by rw [wipe_length]; exact hi)]
    · rw [List.getElem?_set_ne e]
      rcases List.mem_cons.mp h with q | q
      · exact absurd q.symm e
      · exact wipe_in hi q
theorem wipe_set {σ : L2.St} {i : Nat} {x : Option V} {vs : List Nat} (h : i ∈ vs) : wipe (σ.set i x) vs = wipe σ vs := by
  apply List.ext_getElem?
  intro k
  by_cases hk : k < σ.length
  · by_cases m : k ∈ vs
    · rw [wipe_in hk m, wipe_in (by rw [List.length_set]; exact hk) m]
    · rw [wipe_get m, wipe_get m, List.getElem?_set_ne (fun e => m (by rw [← e]; exact h))]
  · rw [List.getElem?_eq_none (by rw [wipe_length, List.length_set]; omega), List.getElem?_eq_none (by rw [wipe_length]; omega)]
theorem wipe_wipe {σ : L2.St} {vs : List Nat} : wipe (wipe σ vs) vs = wipe σ vs := by
  apply List.ext_getElem?
  intro k
  by_cases hk : k < σ.length
  · by_cases m : k ∈ vs
    · rw [wipe_in hk m, wipe_in (by rw [wipe_length]; exact hk) m]
    · rw [wipe_get m]
  · rw [List.getElem?_eq_none (by rw [wipe_length, wipe_length]; omega), List.getElem?_eq_none (by rw [wipe_length]; omega)]
theorem St.wip (S : St c G σ H ρ) (vs : List Nat) : St c G (wipe σ vs) H (wip ρ vs) where
  len := by rw [wipe_length]; exact S.len
  gr := S.gr
  bag := S.bag
  bag0 := S.bag0
  bagG := S.bagG
  sl := fun i s h => by
    obtain ⟨h1, h2⟩ := wip_some h
    obtain ⟨v, k1, k2⟩ := S.sl i s h1
    exact ⟨v, by rw [wipe_get h2]; exact k1, k2⟩
  ne := fun i j ds es p ij q1 q2 r1 r2 => by
    obtain ⟨h1, h2⟩ := wip_some q1
    obtain ⟨h3, h4⟩ := wip_some q2
    rw [wipe_get h2] at r1
    rw [wipe_get h4] at r2
    exact S.ne i j ds es p ij h1 h3 r1 r2
/-- a store that says less -/
theorem St.less {ρ' : Rho} (S : St c G σ H ρ) (h : ∀ (i : Nat) (s : Sl), ρ'[i]? = some (some s) → ρ[i]? = some (some s)) : St c G σ H ρ' :=
  ⟨S.len, S.gr, S.bag, S.bag0, S.bagG, fun i s q => S.sl i s (h i s q), fun i j ds es p ij q1 q2 => S.ne i j ds es p ij (h _ _ q1) (h _ _ q2)⟩
end

/-! ### the strongest readings -/
section
variable {X : Cx}
def tW (X : Cx) (e : Expr) : TE := fun σ H Q => ∀ (pins : List (Addr × Obj)) (s : Shared), Inv X pins σ H s → wpAny (model X.prog X.w) X.A (eval e X.env) (EP X pins σ Q) X.xe s
def tWT (X : Cx) (e : Expr) : TT := fun σ H Q => ∀ (pins : List (Addr × Obj)) (s : Shared), Inv X pins σ H s → wpAny (model X.prog X.w) X.A (isTrue e X.env (eval e X.env)) (TP X pins σ Q) X.xe s
def tWW (X : Cx) (e : Expr) : TT := fun σ H Q => ∀ (whole : Sem Value) (pins : List (Addr × Obj)) (s : Shared), Inv X pins σ H s → wpAny (model X.prog X.w) X.A (isTrue e X.env whole) (TP X pins σ Q) X.xe s
def tWA (X : Cx) (es : List Expr) : TA := fun σ H Q => ∀ (pos : Pos) (pins : List (Addr × Obj)) (s : Shared), Inv X pins σ H s → wpAny (model X.prog X.w) X.A (spliced (backTo pos (starEach es X.env))) (AP X pins σ Q) X.xe s
def tWS (X : Cx) (st : Stmt) : TS := fun D σ H => ∀ (pins : List (Addr × Obj)) (s : Shared), Inv X pins σ H s → wpAny (model X.prog X.w) X.A (exec st X.env) (SP X pins D) X.xe s
def tWSs (X : Cx) (sts : List Stmt) : TS := fun D σ H => ∀ (pins : List (Addr × Obj)) (s : Shared), Inv X pins σ H s → wpAny (model X.prog X.w) X.A (execs sts X.env) (SP X pins D) X.xe s
def tWI (X : Cx) (tg iter : Expr) : TI := fun σ H R => ∀ (pins : List (Addr × Obj)) (s : Shared), Inv X pins σ H s →
  wpAny (model X.prog X.w) X.A (eval iter X.env) (fun v s1 => wpAny (model X.prog X.w) X.A (pyIter v) (PIE X pins σ tg R) X.xe s1) X.xe s
theorem peW {e : Expr} : PE X e (tW X e) := ⟨fun pins s σ H Q I h => h pins s I⟩
theorem ptW {e : Expr} : PT X e (tWT X e) := ⟨fun pins s σ H Q I h => h pins s I⟩
theorem pwW {e : Expr} : PW X e (tWW X e) := ⟨fun whole pins s σ H Q I h => h whole pins s I⟩
theorem paW {es : List Expr} : PA X es (tWA X es) := ⟨fun pos pins s σ H Q I h => h pos pins s I⟩
theorem psW {st : Stmt} : PS X st (tWS X st) := ⟨fun pins s σ H D I h => h pins s I⟩
theorem pssW {sts : List Stmt} : PSs X sts (tWSs X sts) := ⟨fun pins s σ H D I h => h pins s I⟩
theorem piW {tg iter : Expr} : PI X tg iter (tWI X tg iter) := ⟨fun pins s σ H R I h => h pins s I⟩
theorem tW_of {e : Expr} {t : TE} {σ : L2.St} {H : Hp} {Q : VK} (p : PE X e t) (h : t σ H Q) : tW X e σ H Q := fun pins s I => p.run pins s σ H Q I h
theorem tWT_of {e : Expr} {t : TT} {σ : L2.St} {H : Hp} {Q : Bool → Hp → Prop} (p : PT X e t) (h : t σ H Q) : tWT X e σ H Q := fun pins s I => p.run pins s σ H Q I h
theorem tWW_of {e : Expr} {t : TT} {σ : L2.St} {H : Hp} {Q : Bool → Hp → Prop} (p : PW X e t) (h : t σ H Q) : tWW X e σ H Q := fun whole pins s I => p.run whole pins s σ H Q I h
theorem tWA_of {es : List Expr} {t : TA} {σ : L2.St} {H : Hp} {Q : List V → Hp → Prop} (p : PA X es t) (h : t σ H Q) : tWA X es σ H Q := fun pos pins s I => p.run pos pins s σ H Q I h
theorem tWS_of {st : Stmt} {t : TS} {σ : L2.St} {H : Hp} {D : Ends} (p : PS X st t) (h : t D σ H) : tWS X st D σ H := fun pins s I => p.run pins s σ H D I h
theorem tWSs_of {sts : List Stmt} {t : TS} {σ : L2.St} {H : Hp} {D : Ends} (p : PSs X sts t) (h : t D σ H) : tWSs X sts D σ H := fun pins s I => p.run pins s σ H D I h
theorem tWI_of {tg iter : Expr} {t : TI} {σ : L2.St} {H : Hp} {R : It → Hp → Prop} (p : PI X tg iter t) (h : t σ H R) : tWI X tg iter σ H R := fun pins s I => p.run pins s σ H R I h
theorem tW_mono {e : Expr} {σ : L2.St} {H : Hp} {Q Q' : VK} (h : tW X e σ H Q) (m : ∀ v H', Q v H' → Q' v H') : tW X e σ H Q' := fun pins s I =>
  thn (h pins s I) fun u s1 ⟨v, H1, I1, r, q⟩ => ⟨v, H1, I1, r, m v H1 q⟩
/-- the slots are as many as the names -/
theorem tW_len {e : Expr} {σ : L2.St} {H : Hp} {Q : VK} (h : σ.length = X.N.length → tW X e σ H Q) : tW X e σ H Q := fun pins s I => h I.len pins s I
theorem tWSs_len {sts : List Stmt} {σ : L2.St} {H : Hp} {D : Ends} (h : σ.length = X.N.length → tWSs X sts D σ H) : tWSs X sts D σ H := fun pins s I => h I.len pins s I
theorem tWT_mono {e : Expr} {σ : L2.St} {H : Hp} {Q Q' : Bool → Hp → Prop} (h : tWT X e σ H Q) (m : ∀ v H', Q v H' → Q' v H') : tWT X e σ H Q' := fun pins s I =>
  thn (h pins s I) fun u s1 ⟨H1, I1, q⟩ => ⟨H1, I1, m u H1 q⟩
theorem tWW_mono {e : Expr} {σ : L2.St} {H : Hp} {Q Q' : Bool → Hp → Prop} (h : tWW X e σ H Q) (m : ∀ v H', Q v H' → Q' v H') : tWW X e σ H Q' := fun w pins s I =>
  thn (h w pins s I) fun u s1 ⟨H1, I1, q⟩ => ⟨H1, I1, m u H1 q⟩
theorem tWA_mono {es : List Expr} {σ : L2.St} {H : Hp} {Q Q' : List V → Hp → Prop} (h : tWA X es σ H Q) (m : ∀ v H', Q v H' → Q' v H') : tWA X es σ H Q' := fun pos pins s I =>
  thn (h pos pins s I) fun u s1 ⟨v, H1, I1, r, q⟩ => ⟨v, H1, I1, r, m v H1 q⟩
theorem tWI_mono {tg iter : Expr} {σ : L2.St} {H : Hp} {R R' : It → Hp → Prop} (h : tWI X tg iter σ H R) (m : ∀ J H', R J H' → R' J H') : tWI X tg iter σ H R' := fun pins s I =>
  thn (h pins s I) fun v s1 h1 => thn h1 fun itv s2 ⟨it, fp, tn, J, H', e, I2, T, st, f, q⟩ => ⟨it, fp, tn, J, H', e, I2, T, st, f, m J H' q⟩
theorem tWSs_mono {sts : List Stmt} {σ : L2.St} {H : Hp} {D D' : Ends} (h : tWSs X sts D σ H) (n : ∀ σ H, D.nx σ H → D'.nx σ H) (r : ∀ v H, D.rt v H → D'.rt v H) (b : ∀ σ H, D.bk σ H → D'.bk σ H) (k : ∀ σ H, D.ct σ H → D'.ct σ H) : tWSs X sts D' σ H := fun pins s I =>
  thn (h pins s I) fun f s1 q => by
    cases f with
    | next => obtain ⟨σ', H', I', z⟩ := q; exact ⟨σ', H', I', n _ _ z⟩
    | brk => obtain ⟨σ', H', I', z⟩ := q; exact ⟨σ', H', I', b _ _ z⟩
    | cont => obtain ⟨σ', H', I', z⟩ := q; exact ⟨σ', H', I', k _ _ z⟩
    | ret u => obtain ⟨v, σ', H', I', rv, z⟩ := q; exact ⟨v, σ', H', I', rv, r _ _ z⟩
end

/-! ### judgements -/
def DE (X : Cx) (c : Ctx) (e : Expr) (ρ : Rho) (Q : PyData → Prop) : Prop :=
  ∀ σ H G, St c G σ H ρ → tW X e σ H fun v H' => ∃ d G', Q d ∧ Grow c.b G H G' H' ∧ At G' v d
/-- a value -/
abbrev DV (X : Cx) (c : Ctx) (e : Expr) (ρ : Rho) (d : PyData) : Prop := DE X c e ρ (fun d' => d' = d)
/-- a new list -/
def DO (X : Cx) (c : Ctx) (e : Expr) (ρ : Rho) (Q : List PyData → Prop) : Prop :=
  ∀ σ H G, St c G σ H ρ → tW X e σ H fun v H' => ∃ ds G' p vs, Q ds ∧ Grow c.b G H G' H' ∧ v = .ref p ∧ H p = none ∧ H' p = some (.lst vs) ∧ G' p = none ∧ AtAll G' vs ds
/-- arguments -/
def DA (X : Cx) (c : Ctx) (es : List Expr) (ρ : Rho) (Q : List PyData → Prop) : Prop :=
  ∀ σ H G, St c G σ H ρ → tWA X es σ H fun vs H' => ∃ ds G', Q ds ∧ Grow c.b G H G' H' ∧ AtAll G' vs ds
def DT (X : Cx) (c : Ctx) (e : Expr) (ρ : Rho) (Q : Bool → Prop) : Prop :=
  ∀ σ H G, St c G σ H ρ → tWT X e σ H fun k H' => ∃ G', Q k ∧ Grow c.b G H G' H'
def DW (X : Cx) (c : Ctx) (e : Expr) (ρ : Rho) (Q : Bool → Prop) : Prop :=
  ∀ σ H G, St c G σ H ρ → tWW X e σ H fun k H' => ∃ G', Q k ∧ Grow c.b G H G' H'
/-- targets: one name, or a pair of names -/
inductive Bnd where
  | one (i : Nat) | two (i j : Nat)
def Bnd.At : Bnd → Hp → V → PyData → Prop
  | .one _, G, v, d => DL.At G v d
  | .two _ _, G, v, d => Atw G v d
def Bnd.put : Bnd → PyData → Rho → Rho
  | .one i, d, ρ => ρ.set i (some (.dat d))
  | .two i j, .tuple [a, b], ρ => (ρ.set i (some (.dat a))).set j (some (.dat b))
  | .two _ _, _, ρ => ρ
def Bnd.ok : Bnd → PyData → Prop
  | .one _, _ => True
  | .two _ _, d => ∃ a b, d = .tuple [a, b]
structure Walks (c : Ctx) (B : Bnd) (J : It) (as : List PyData) (G1 : Hp) : Prop where
  go : ∀ G2 H2 (i : Nat) d, Ex G1 G2 → Ex G2 H2 → as[i]? = some d → J.go i H2
  yld : ∀ G2 H2 (i : Nat) d x H', Ex G1 G2 → Ex G2 H2 → as[i]? = some d → J.yld i H2 x H' → ∃ G', Grow c.b G2 H2 G' H' ∧ B.At G' x d
  stop : ∀ G2 H2, Ex G1 G2 → Ex G2 H2 → J.stop as.length H2
def DI (X : Cx) (c : Ctx) (B : Bnd) (tg iter : Expr) (ρ : Rho) (Q : List PyData → Prop) : Prop :=
  ∀ σ H G, St c G σ H ρ → tWI X tg iter σ H fun J H' => ∃ as G', Q as ∧ Grow c.b G H G' H' ∧ Walks c B J as G'
/-- statements: P behind them, R of what is returned -/
def Runs (X : Cx) (c : Ctx) (sts : List Stmt) (ρ : Rho) (P : Rho → Prop) (R : PyData → Prop) : Prop :=
  ∀ σ H G, St c G σ H ρ → ∀ D : Ends, (∀ ρ' σ' H' G', P ρ' → Ex G G' → St c G' σ' H' ρ' → D.nx σ' H') → (∀ d v H' G', R d → Grow c.b c.G0 c.H0 G' H' → BagAt H' c.b → At G' v d → D.rt v H') → tWSs X sts D σ H
section
variable {X : Cx} {c : Ctx} {e : Expr} {ρ : Rho}
theorem DE.imp {Q Q' : PyData → Prop} (h : DE X c e ρ Q) (m : ∀ d, Q d → Q' d) : DE X c e ρ Q' := fun σ H G S =>
  tW_mono (h σ H G S) fun v H' ⟨d, G', q, g, a⟩ => ⟨d, G', m d q, g, a⟩
theorem DO.imp {Q Q' : List PyData → Prop} (h : DO X c e ρ Q) (m : ∀ d, Q d → Q' d) : DO X c e ρ Q' := fun σ H G S =>
  tW_mono (h σ H G S) fun v H' ⟨d, G', p, vs, q, r⟩ => ⟨d, G', p, vs, m d q, r⟩
theorem DE.is {d d' : PyData} (h : DV X c e ρ d) (q : d = d') : DV X c e ρ d' := q ▸ h
/-- a new list as a datum -/
theorem DO.de {Q : List PyData → Prop} {Q' : PyData → Prop} (h : DO X c e ρ Q) (m : ∀ ds, Q ds → Q' (.list ds)) : DE X c e ρ Q' := fun σ H G S =>
  tW_mono (h σ H G S) fun v H' ⟨ds, G', p, vs, q, g, hv, hp, hp', hg, a⟩ => by
    subst hv
    have e1 : Ex G' (upd G' p (.lst vs)) := Ex.new hg
    refine ⟨.list ds, upd G' p (.lst vs), m ds q, ⟨g.g.trans e1, fun a o z => ?_, fun a n => ?_, g.h, g.bg⟩, .lst upd_same (a.mono e1)⟩
    · by_cases y : a = p
      · subst y; rw [upd_same] at z; cases z; exact hp'
      · rw [upd_ne y] at z; exact g.e a o z
    · rw [upd_ne (fun y => n (by rw [y]; exact hp))]
      exact g.f a n
theorem DO.dv {ds : List PyData} (h : DO X c e ρ (fun d => d = ds)) : DV X c e ρ (.list ds) := h.de fun _ q => by rw [q]
end
end DL

/-! ## text DL2 -/
set_option Elab.async false
set_option linter.all false
set_option maxRecDepth 100000
set_option maxHeartbeats 4000000
/-! DL2: rules for expressions, tests, arguments. -/
namespace DL
open PySem PySem.Spec PyProof.Rows L2

def Post (b : Option Addr) (G H : Hp) (Q : PyData → Prop) (Qv : VK) : Prop := ∀ v H' d G', Q d → Grow b G H G' H' → At G' v d → Qv v H'
def PostO (b : Option Addr) (G H : Hp) (Q : List PyData → Prop) (Qv : VK) : Prop := ∀ p H' ds G' vs, Q ds → Grow b G H G' H' → H p = none → H' p = some (.lst vs) → G' p = none → AtAll G' vs ds → Qv (.ref p) H'
/-- operations by data -/
def OpD (r : R2) (d1 d2 : PyData) (Q : PyData → Prop) : Prop := ∀ b x y G H Qv, Ex G H → At G x d1 → At G y d2 → Post b G H Q Qv → r x y H Qv
def OpO (r : R2) (d1 d2 : PyData) (Q : List PyData → Prop) : Prop := ∀ b x y G H Qv, Ex G H → At G x d1 → At G y d2 → PostO b G H Q Qv → r x y H Qv
def UnD (r : V → Hp → VK → Prop) (d1 : PyData) (Q : PyData → Prop) : Prop := ∀ b x G H Qv, Ex G H → At G x d1 → Post b G H Q Qv → r x H Qv
def CallD (r : List V → Hp → VK → Prop) (ds : List PyData) (Q : PyData → Prop) : Prop := ∀ b vs G H Qv, Ex G H → AtAll G vs ds → Post b G H Q Qv → r vs H Qv
def CallO (r : List V → Hp → VK → Prop) (ds : List PyData) (Q : List PyData → Prop) : Prop := ∀ b vs G H Qv, Ex G H → AtAll G vs ds → PostO b G H Q Qv → r vs H Qv
def MethD (r : V → List V → Hp → VK → Prop) (d : PyData) (ds : List PyData) (Q : PyData → Prop) : Prop := ∀ b x vs G H Qv, Ex G H → At G x d → AtAll G vs ds → Post b G H Q Qv → r x vs H Qv
theorem Post.same {b : Option Addr} {G H : Hp} {Q : PyData → Prop} {Qv : VK} (p : Post b G H Q Qv) (e : Ex G H) {v : V} {d : PyData} (q : Q d) (a : At G v d) : Qv v H := p v H d G q (Grow.refl e) a
theorem Post.tup {b : Option Addr} {G H : Hp} {Q : PyData → Prop} {Qv : VK} (p : Post b G H Q Qv) (e : Ex G H) {a : Addr} {o : Obj} {vs : List V} {ds : List PyData} (n : H a = none) (hd : o.dict = none) (q : Q (.tuple ds)) (k : AtAll G vs ds) : Qv (.ref a) (upd H a (.frz o (.tup vs))) :=
  p _ _ _ (upd G a (.frz o (.tup vs))) q (Grow.new e n) (.tup upd_same hd (k.mono (Ex.new (e.none n))))
theorem PostO.lst {b : Option Addr} {G H : Hp} {Q : List PyData → Prop} {Qv : VK} (p : PostO b G H Q Qv) (e : Ex G H) {a : Addr} {vs : List V} {ds : List PyData} (n : H a = none) (q : Q ds) (k : AtAll G vs ds) : Qv (.ref a) (upd H a (.lst vs)) :=
  p a _ ds G vs q (Grow.hid e n) n upd_same (e.none n) k
theorem Post.lst {b : Option Addr} {G H : Hp} {Q : PyData → Prop} {Qv : VK} (p : Post b G H Q Qv) (e : Ex G H) {a : Addr} {vs : List V} {ds : List PyData} (n : H a = none) (q : Q (.list ds)) (k : AtAll G vs ds) : Qv (.ref a) (upd H a (.lst vs)) :=
  p _ _ _ (upd G a (.lst vs)) q (Grow.new e n) (.lst upd_same (k.mono (Ex.new (e.none n))))

section
variable {X : Cx} {c : Ctx} {ρ : Rho} {pos : Pos} {e a b : Expr}
/-! ### names, constants -/
theorem e_var (i : Nat) {x : Str} {d : PyData} (hρ : ρ[i]? = some (some (.dat d))) (hN : X.N[i]? = some x := by rfl) (hv : Vis X.env.scope x := by first | exact Or.inl rfl | exact Or.inr (Or.inl rfl) | exact Or.inr (Or.inr rfl))
    (hd : (x == ("__debug__" : Str)) = false := by decide) (hcd : (x == ("__classdict__" : Str)) = false := by decide) : DV X c (.Name x pos) ρ d := fun σ H G S =>
  tW_of (pe_var hN hv hd hcd) (by
    obtain ⟨v, h1, h2⟩ := S.sl i _ hρ
    exact ⟨v, h1, d, G, rfl, Grow.refl S.gr.e, h2⟩)
theorem e_int {i : Int} {j : Nat} : DV X c (.Constant (.int i) j pos) ρ (.int i) := fun σ H G S => tW_of pe_int ⟨_, G, rfl, Grow.refl S.gr.e, .int i⟩
theorem e_bl {i : Bool} {j : Nat} : DV X c (.Constant (.bool i) j pos) ρ (.bool i) := fun σ H G S => tW_of pe_bl ⟨_, G, rfl, Grow.refl S.gr.e, .bl i⟩
theorem e_non {j : Nat} : DV X c (.Constant .none j pos) ρ .none := fun σ H G S => tW_of pe_non ⟨_, G, rfl, Grow.refl S.gr.e, .non⟩
theorem e_str {x : Str} {j : Nat} : DV X c (.Constant (.str x) j pos) ρ (.str x) := fun σ H G S => tW_of pe_str ⟨_, G, rfl, Grow.refl S.gr.e, .str x⟩
theorem e_glob {x : Str} {i : Int} {t : Tok} (hm : X.mg x = some (.int i t)) (hg : Gl X x := by rfl) (hd : (x == ("__debug__" : Str)) = false := by decide) : DV X c (.Name x pos) ρ (.int i) := fun σ H G S =>
  tW_of (pe_glob (v := .int i) hg hm ⟨t, rfl⟩ hd) ⟨_, G, rfl, Grow.refl S.gr.e, .int i⟩

/-! ### a value that asks nothing of the ledger, with own lists read -/
def atomic : PyData → Bool
  | .none | .bool _ | .int _ | .str _ => true
  | _ => false
theorem At.atom {G G' : Hp} {v : V} {d : PyData} (h : At G v d) (q : atomic d = true) : At G' v d := by
  cases h with
  | non => exact .non
  | bl b => exact .bl b
  | int i => exact .int i
  | str x => exact .str x
  | lst _ _ => cases q
  | tup _ _ _ => cases q
theorem Grow.thaw {b : Option Addr} {G G1 G' H H' : Hp} (e : Ex G G1) (x : Grow b G1 H G' H') : Grow b G H G H' :=
  ⟨Ex.refl _, (e.trans x.g).trans x.e, fun _ _ => rfl, x.h, x.bg⟩
theorem e_thaw (i : Nat) {ds : List PyData} {Q : PyData → Prop} (hρ : ρ[i]? = some (some (.own ds))) (h : DE X c e (ρ.set i (some (.dat (.list ds)))) Q) (q : ∀ d, Q d → atomic d = true) : DE X c e ρ Q := fun σ H G S => by
  obtain ⟨G1, e1, S1⟩ := S.freeze hρ
  exact tW_mono (h σ H G1 S1) fun v H' ⟨d, G', qd, g, a⟩ => ⟨d, G, qd, g.thaw e1, a.atom (q d qd)⟩
theorem t_thaw (i : Nat) {ds : List PyData} {Q : Bool → Prop} (hρ : ρ[i]? = some (some (.own ds))) (h : DT X c e (ρ.set i (some (.dat (.list ds)))) Q) : DT X c e ρ Q := fun σ H G S => by
  obtain ⟨G1, e1, S1⟩ := S.freeze hρ
  exact tWT_mono (h σ H G1 S1) fun k H' ⟨G', qd, g⟩ => ⟨G, qd, g.thaw e1⟩

/-! ### two operands -/
theorem bin2 {Qa : PyData → Prop} {Qb : PyData → Prop} (ha : DE X c a ρ Qa) (hb : DE X c b ρ Qb) {σ : L2.St} {H G : Hp} (S : St c G σ H ρ) {R : V → V → Hp → Prop}
    (k : ∀ x y d1 d2 H2 G2, Qa d1 → Qb d2 → Grow c.b G H G2 H2 → At G2 x d1 → At G2 y d2 → R x y H2) : tW X a σ H fun x H1 => tW X b σ H1 fun y H2 => R x y H2 :=
  tW_mono (ha σ H G S) fun x H1 ⟨d1, G1, q1, g1, a1⟩ => tW_mono (hb σ H1 G1 (S.grow g1)) fun y H2 ⟨d2, G2, q2, g2, a2⟩ =>
    k x y d1 d2 H2 G2 q1 q2 (g1.trans S.bag g2) (a1.mono g2.g) a2
theorem e_op2 {r : R2} {Qa Qb Q : PyData → Prop} (hp : ∀ {ta tb}, PE X a ta → PE X b tb → PE X e (tOp r ta tb)) (ha : DE X c a ρ Qa) (hb : DE X c b ρ Qb) (hr : ∀ d1 d2, Qa d1 → Qb d2 → OpD r d1 d2 Q) : DE X c e ρ Q := fun σ H G S =>
  tW_of (hp peW peW) (bin2 ha hb S fun x y d1 d2 H2 G2 q1 q2 g a1 a2 => hr d1 d2 q1 q2 c.b x y G2 H2 _ g.e a1 a2 fun v H' d G' q g' a' => ⟨d, G', q, g.trans S.bag g', a'⟩)
theorem o_op2 {r : R2} {Qa Qb : PyData → Prop} {Q : List PyData → Prop} (hp : ∀ {ta tb}, PE X a ta → PE X b tb → PE X e (tOp r ta tb)) (ha : DE X c a ρ Qa) (hb : DE X c b ρ Qb) (hr : ∀ d1 d2, Qa d1 → Qb d2 → OpO r d1 d2 Q) : DO X c e ρ Q := fun σ H G S =>
  tW_of (hp peW peW) (bin2 ha hb S fun x y d1 d2 H2 G2 q1 q2 g a1 a2 => hr d1 d2 q1 q2 c.b x y G2 H2 _ g.e a1 a2 fun p H' ds G' vs q g' n h' gn a' => ⟨ds, G', p, vs, q, g.trans S.bag g', rfl, g.none S.bag n, h', gn, a'⟩)
theorem e_op {op : Operator} {r : R2} {Qa Qb Q : PyData → Prop} (ho : OpR X (binaryOp op) r) (ha : DE X c a ρ Qa) (hb : DE X c b ρ Qb) (hr : ∀ d1 d2, Qa d1 → Qb d2 → OpD r d1 d2 Q) : DE X c (.BinOp a op b pos) ρ Q := e_op2 (pe_op ho) ha hb hr
theorem o_op {op : Operator} {r : R2} {Qa Qb : PyData → Prop} {Q : List PyData → Prop} (ho : OpR X (binaryOp op) r) (ha : DE X c a ρ Qa) (hb : DE X c b ρ Qb) (hr : ∀ d1 d2, Qa d1 → Qb d2 → OpO r d1 d2 Q) : DO X c (.BinOp a op b pos) ρ Q := o_op2 (pe_op ho) ha hb hr
theorem e_cmp {op : CmpOp} {r : R2} {Qa Qb Q : PyData → Prop} (ho : OpR X (compareOp op) r) (ha : DE X c a ρ Qa) (hb : DE X c b ρ Qb) (hr : ∀ d1 d2, Qa d1 → Qb d2 → OpD r d1 d2 Q) (hm : behindInMarks op b = false := by first | exact nomark _ | rfl) : DE X c (.Compare a [op] [b] pos) ρ Q :=
  e_op2 (fun h1 h2 => pe_cmpR ho h1 h2 hm) ha hb hr
theorem e_ix {r : R2} {Qa Qb Q : PyData → Prop} (ho : IxR X r) (ha : DE X c a ρ Qa) (hb : DE X c b ρ Qb) (hr : ∀ d1 d2, Qa d1 → Qb d2 → OpD r d1 d2 Q) (hs : PlainIx b := by exact (fun _ _ => rfl)) : DE X c (.Subscript a b pos) ρ Q :=
  e_op2 (fun h1 h2 => pe_ix ho h1 h2 hs) ha hb hr

/-! ### arguments, displays, calls -/
theorem a_nil : DA X c [] ρ (fun ds => ds = []) := fun σ H G S => tWA_of pa_nil ⟨[], G, rfl, Grow.refl S.gr.e, .nil⟩
theorem a_cons {es : List Expr} {Q1 : PyData → Prop} {Q2 : List PyData → Prop} (h : DE X c e ρ Q1) (hr : DA X c es ρ Q2) (hs : starEach (e :: es) X.env = (false, eval e X.env) :: starEach es X.env := by rfl) : DA X c (e :: es) ρ (fun ds => ∃ d r, ds = d :: r ∧ Q1 d ∧ Q2 r) := fun σ H G S =>
  tWA_of (pa_cons peW paW hs) (tW_mono (h σ H G S) fun x H1 ⟨d1, G1, q1, g1, a1⟩ => tWA_mono (hr σ H1 G1 (S.grow g1)) fun xs H2 ⟨ds, G2, q2, g2, a2⟩ =>
    ⟨d1 :: ds, G2, ⟨d1, ds, rfl, q1, q2⟩, g1.trans S.bag g2, .cons (a1.mono g2.g) a2⟩)
theorem a_one {Q1 : PyData → Prop} (h : DE X c e ρ Q1) (hs : starEach [e] X.env = (false, eval e X.env) :: starEach [] X.env := by rfl) : DA X c [e] ρ (fun ds => ∃ d, ds = [d] ∧ Q1 d) := fun σ H G S =>
  tWA_mono (a_cons h a_nil hs σ H G S) fun vs H' ⟨ds, G', ⟨d, r, e1, q, e2⟩, g, a⟩ => ⟨ds, G', ⟨d, by rw [e1, e2], q⟩, g, a⟩
theorem a_dv {es : List Expr} {d : PyData} {ds : List PyData} (h : DV X c e ρ d) (hr : DA X c es ρ (fun r => r = ds)) (hs : starEach (e :: es) X.env = (false, eval e X.env) :: starEach es X.env := by rfl) : DA X c (e :: es) ρ (fun r => r = d :: ds) := fun σ H G S =>
  tWA_mono (a_cons h hr hs σ H G S) fun vs H' ⟨ds, G', ⟨d, r, e1, q, e2⟩, g, a⟩ => ⟨ds, G', by rw [e1, q, e2], g, a⟩
/-- a new tuple whose object has no dict -/
def tTupX (t : TA) : TE := fun σ H Q => t σ H fun xs H1 => xs.length ≤ sizeLine ∧ ∀ p o, H1 p = none → o.dict = none → Q (.ref p) (upd H1 p (.frz o (.tup xs)))
theorem pe_tupX {es : List Expr} {t : TA} {k : Nat} (h : PA X es t) : PE X (.Tuple es k pos) (tTupX t) := by
  refine ⟨fun pins s σ H Q I hq => ?_⟩
  refine wpAny_Tuple_spliced (thn (h.run pos pins s σ H _ I hq) fun us s1 ⟨xs, H1, I1, r, z, q⟩ => ⟨by rw [← r.length]; exact z, ?_⟩)
  have hf : H1 s1.heap.objs.size = none := I1.hok.fresh (Nat.le_refl _)
  refine ⟨.ref s1.heap.objs.size, upd H1 s1.heap.objs.size (.frz { cls := .type "tuple", data := .seq us.toArray } (.tup xs)), I1.laid (t' := s1.toks) (fun b u e => Heap.get?_push_of_some _ e) (Nat.le_refl _) ?_, rfl, q _ _ hf rfl⟩
  exact ⟨Heap.get?_push_size _ rfl, z, us, r, ⟨_, Heap.get?_push_size _ rfl, rfl, _, rfl⟩⟩
theorem e_tup {es : List Expr} {k : Nat} {Q : List PyData → Prop} {Q' : PyData → Prop} (h : DA X c es ρ Q) (m : ∀ ds, Q ds → ds.length ≤ 1000 ∧ Q' (.tuple ds)) : DE X c (.Tuple es k pos) ρ Q' := fun σ H G S =>
  tW_of (pe_tupX paW) (tWA_mono (h σ H G S) fun vs H1 ⟨ds, G1, q, g, a⟩ => ⟨by rw [a.length]; exact Nat.le_of_lt (small1000 (m ds q).1), fun p o n hd =>
    ⟨_, _, (m ds q).2, g.trans S.bag (Grow.new g.e n), .tup upd_same hd (a.mono (Ex.new (g.e.none n)))⟩⟩)
theorem v_tup {es : List Expr} {k : Nat} {ds : List PyData} (h : DA X c es ρ (fun r => r = ds)) (hl : ds.length ≤ 1000 := by exact Nat.le_of_ble_eq_true rfl) : DV X c (.Tuple es k pos) ρ (.tuple ds) := e_tup h fun r q => by rw [q]; exact ⟨hl, rfl⟩
theorem o_lst {es : List Expr} {Q : List PyData → Prop} (h : DA X c es ρ Q) (m : ∀ ds, Q ds → ds.length ≤ 1000) : DO X c (.List es pos) ρ Q := fun σ H G S =>
  tW_of (pe_lst paW) (tWA_mono (h σ H G S) fun vs H1 ⟨ds, G1, q, g, a⟩ => ⟨by rw [a.length]; exact Nat.le_of_lt (small1000 (m ds q)), fun p n =>
    ⟨ds, G1, p, vs, q, g.trans S.bag (Grow.hid g.e n), rfl, g.none S.bag n, upd_same, g.e.none n, a⟩⟩)
theorem o_nil : DO X c (.List [] pos) ρ (fun r => r = []) := o_lst a_nil fun ds q => by rw [q]; exact Nat.zero_le _
theorem e_callB {x : Str} {p : Pos} {es : List Expr} {id : String} {r : List V → Hp → VK → Prop} {Qa : List PyData → Prop} {Q : PyData → Prop} (hc : CallR X (.builtin id) r) (hm : X.mg x = none) (ha : DA X c (e :: es) ρ Qa) (hr : ∀ ds, Qa ds → CallD r ds Q) (hv : bootBuiltins x = some (.builtin id) := by decide +kernel)
    (hg : Gl X x := by rfl) (hn : x ≠ "__name__" := by decide) (hdb : (x == ("__debug__" : Str)) = false := by decide)
    (he : starEach (e :: es) X.env = (false, eval e X.env) :: starEach es X.env := by rfl) (hpl : (backTo pos (starEach es X.env)).any (·.1) = false := by rfl) : DE X c (.Call (.Name x p) (e :: es) [] pos) ρ Q := fun σ H G S =>
  tW_of (pe_callB hc hg hm hv paW hn hdb he hpl) (tWA_mono (ha σ H G S) fun vs H1 ⟨ds, G1, q, g, a⟩ => hr ds q c.b vs G1 H1 _ g.e a fun v H' d G' q' g' a' => ⟨d, G', q', g.trans S.bag g', a'⟩)
theorem o_callB {x : Str} {p : Pos} {es : List Expr} {id : String} {r : List V → Hp → VK → Prop} {Qa : List PyData → Prop} {Q : List PyData → Prop} (hc : CallR X (.builtin id) r) (hm : X.mg x = none) (ha : DA X c (e :: es) ρ Qa) (hr : ∀ ds, Qa ds → CallO r ds Q) (hv : bootBuiltins x = some (.builtin id) := by decide +kernel)
    (hg : Gl X x := by rfl) (hn : x ≠ "__name__" := by decide) (hdb : (x == ("__debug__" : Str)) = false := by decide)
    (he : starEach (e :: es) X.env = (false, eval e X.env) :: starEach es X.env := by rfl) (hpl : (backTo pos (starEach es X.env)).any (·.1) = false := by rfl) : DO X c (.Call (.Name x p) (e :: es) [] pos) ρ Q := fun σ H G S =>
  tW_of (pe_callB hc hg hm hv paW hn hdb he hpl) (tWA_mono (ha σ H G S) fun vs H1 ⟨ds, G1, q, g, a⟩ => hr ds q c.b vs G1 H1 _ g.e a fun p H' ds G' vs q' g' n h' gn a' => ⟨ds, G', p, vs, q', g.trans S.bag g', rfl, g.none S.bag n, h', gn, a'⟩)
theorem e_callTy {x : Str} {p : Pos} {es : List Expr} {T : String} {r : List V → Hp → VK → Prop} {Qa : List PyData → Prop} {Q : PyData → Prop} (hc : CallR X (.type T) r) (hm : X.mg x = none) (ha : DA X c (e :: es) ρ Qa) (hr : ∀ ds, Qa ds → CallD r ds Q) (hv : bootBuiltins x = some (.type T) := by decide +kernel)
    (hg : Gl X x := by rfl) (hn : x ≠ "__name__" := by decide) (hdb : (x == ("__debug__" : Str)) = false := by decide)
    (he : starEach (e :: es) X.env = (false, eval e X.env) :: starEach es X.env := by rfl) (hpl : (backTo pos (starEach es X.env)).any (·.1) = false := by rfl) : DE X c (.Call (.Name x p) (e :: es) [] pos) ρ Q := fun σ H G S =>
  tW_of (pe_callTy hc hg hm hv paW hn hdb he hpl) (tWA_mono (ha σ H G S) fun vs H1 ⟨ds, G1, q, g, a⟩ => hr ds q c.b vs G1 H1 _ g.e a fun v H' d G' q' g' a' => ⟨d, G', q', g.trans S.bag g', a'⟩)
theorem o_callTy {x : Str} {p : Pos} {es : List Expr} {T : String} {r : List V → Hp → VK → Prop} {Qa : List PyData → Prop} {Q : List PyData → Prop} (hc : CallR X (.type T) r) (hm : X.mg x = none) (ha : DA X c (e :: es) ρ Qa) (hr : ∀ ds, Qa ds → CallO r ds Q) (hv : bootBuiltins x = some (.type T) := by decide +kernel)
    (hg : Gl X x := by rfl) (hn : x ≠ "__name__" := by decide) (hdb : (x == ("__debug__" : Str)) = false := by decide)
    (he : starEach (e :: es) X.env = (false, eval e X.env) :: starEach es X.env := by rfl) (hpl : (backTo pos (starEach es X.env)).any (·.1) = false := by rfl) : DO X c (.Call (.Name x p) (e :: es) [] pos) ρ Q := fun σ H G S =>
  tW_of (pe_callTy hc hg hm hv paW hn hdb he hpl) (tWA_mono (ha σ H G S) fun vs H1 ⟨ds, G1, q, g, a⟩ => hr ds q c.b vs G1 H1 _ g.e a fun p H' ds G' vs q' g' n h' gn a' => ⟨ds, G', p, vs, q', g.trans S.bag g', rfl, g.none S.bag n, h', gn, a'⟩)

/-! ### the promises of defs -/
/-- of data alone: T ds R says that on the arguments ds the answer is one of R -/
def spD (T : List PyData → (PyData → Prop) → Prop) : Sp := fun vs H Q _ => ∃ G ds R, Ex G H ∧ AtAll G vs ds ∧ T ds R ∧ ∀ v d G' H', R d → Grow none G H G' H' → At G' v d → Q v H'
/-- with the bag ahead -/
def spB (T : List PyData → (PyData → Prop) → Prop) : Sp := fun vs H Q _ => ∃ b G ds R ws, vs = .ref b :: ws ∧ BagAt H (some b) ∧ G b = none ∧ Ex G H ∧ AtAll G ws ds ∧ T ds R ∧
  ∀ v d G' H', R d → Grow (some b) G H G' H' → At G' v d → Q v H'
theorem e_call {x : Str} {p : Pos} {es : List Expr} {f : Addr} {fd : FuncData} {ps : List Str} {k : Nat} {T : List PyData → (PyData → Prop) → Prop} {Qa : List PyData → Prop} {R : PyData → Prop} (F : FnOk X.prog X.w X.K X.mg X.base CX0 k f fd ps (spD T)) (hr : Room k X.A) (hm : X.mg x = some (.ref f)) (hk : PySem.W.keepIn X.K (.ref f) = true) (hb : Binds X.K fd ps [])
    (ha : DA X c (e :: es) ρ Qa) (ht : ∀ ds, Qa ds → T ds R) (hg : Gl X x := by rfl) (hdb : (x == ("__debug__" : Str)) = false := by decide) (he : starEach (e :: es) X.env = (false, eval e X.env) :: starEach es X.env := by rfl) (hpl : (backTo pos (starEach es X.env)).any (·.1) = false := by rfl) :
    DE X c (.Call (.Name x p) (e :: es) [] pos) ρ R := fun σ H G S =>
  tW_of (pe_call F hr hg hm hk hb .nil pass0 paW hdb he hpl) (tWA_mono (ha σ H G S) fun vs H1 ⟨ds, G1, q, g, a⟩ => by
    rw [List.append_nil]
    exact ⟨G1, ds, R, g.e, a, ht ds q, fun v d G' H' r g' a' => ⟨d, G', r, g.trans S.bag g'.any, a'⟩⟩)
theorem e_callBag (i : Nat) {x y : Str} {p py : Pos} {es : List Expr} {f : Addr} {fd : FuncData} {ps : List Str} {k : Nat} {T : List PyData → (PyData → Prop) → Prop} {Qa : List PyData → Prop} {R : PyData → Prop} (F : FnOk X.prog X.w X.K X.mg X.base CX0 k f fd ps (spB T)) (hr : Room k X.A) (hm : X.mg x = some (.ref f)) (hk : PySem.W.keepIn X.K (.ref f) = true) (hb : Binds X.K fd ps [])
    (ha : DA X c es ρ Qa) (ht : ∀ ds, Qa ds → T ds R) (hρ : ρ[i]? = some (some .bag) := by rfl) (hN : X.N[i]? = some y := by rfl) (hv : Vis X.env.scope y := by first | exact Or.inl rfl | exact Or.inr (Or.inl rfl) | exact Or.inr (Or.inr rfl))
    (hd : (y == ("__debug__" : Str)) = false := by decide) (hcd : (y == ("__classdict__" : Str)) = false := by decide)
    (hg : Gl X x := by rfl) (hdb : (x == ("__debug__" : Str)) = false := by decide) (he : starEach (.Name y py :: es) X.env = (false, eval (.Name y py) X.env) :: starEach es X.env := by rfl) (hpl : (backTo pos (starEach es X.env)).any (·.1) = false := by rfl) :
    DE X c (.Call (.Name x p) (.Name y py :: es) [] pos) ρ R := fun σ H G S =>
  tW_of (pe_call F hr hg hm hk hb .nil pass0 (pa_cons (pe_var hN hv hd hcd) paW he) hdb he hpl) (by
    obtain ⟨v, h1, q, rfl, hq⟩ := S.sl i _ hρ
    refine ⟨_, h1, tWA_mono (ha σ H G S) fun vs H1 ⟨ds, G1, qa, g, a⟩ => ?_⟩
    show spB T (V.ref q :: vs ++ []) H1 _ _
    rw [List.append_nil]
    refine ⟨q, G1, ds, R, vs, rfl, fun z e => ?_, ?_, g.e, a, ht ds qa, fun v d G' H' r g' a' => ⟨d, G', r, ?_, a'⟩⟩
    · rw [← hq] at e
      exact (g.bg S.bag) z e
    · exact (S.grow g).bagG q hq
    · rw [← hq] at g'
      exact g.trans S.bag g')
/-! ### keywords alone -/
def tWK (X : Cx) (kws : List Keyword) : TA := fun σ H Q => ∀ (pos : Pos) (pins : List (Addr × Obj)) (s : Shared), Inv X pins σ H s → wpAny (model X.prog X.w) X.A (evalAll ((backToKw pos (keywordEach kws X.env)).map (·.2))) (AP X pins σ Q) X.xe s
theorem pkW {kws : List Keyword} : PK X kws (tWK X kws) := ⟨fun pos pins s σ H Q I h => h pos pins s I⟩
theorem tWK_of {kws : List Keyword} {t : TA} {σ : L2.St} {H : Hp} {Q : List V → Hp → Prop} (p : PK X kws t) (h : t σ H Q) : tWK X kws σ H Q := fun pos pins s I => p.run pos pins s σ H Q I h
theorem tWK_mono {kws : List Keyword} {σ : L2.St} {H : Hp} {Q Q' : List V → Hp → Prop} (h : tWK X kws σ H Q) (m : ∀ v H', Q v H' → Q' v H') : tWK X kws σ H Q' := fun pos pins s I =>
  thn (h pos pins s I) fun u s1 ⟨v, H1, I1, r, q⟩ => ⟨v, H1, I1, r, m v H1 q⟩
def DK (X : Cx) (c : Ctx) (kws : List Keyword) (ρ : Rho) (Q : List PyData → Prop) : Prop :=
  ∀ σ H G, St c G σ H ρ → tWK X kws σ H fun vs H' => ∃ ds G', Q ds ∧ Grow c.b G H G' H' ∧ AtAll G' vs ds
theorem k_nil : DK X c [] ρ (fun ds => ds = []) := fun σ H G S => tWK_of pk_nil ⟨[], G, rfl, Grow.refl S.gr.e, .nil⟩
theorem k_dv {kws : List Keyword} {nm : Option Str} {kpos : Pos} {d : PyData} {ds : List PyData} (h : DV X c e ρ d) (hr : DK X c kws ρ (fun r => r = ds)) : DK X c (⟨nm, e, kpos⟩ :: kws) ρ (fun r => r = d :: ds) := fun σ H G S =>
  tWK_of (pk_cons peW pkW) (tW_mono (h σ H G S) fun x H1 ⟨d1, G1, q1, g1, a1⟩ => tWK_mono (hr σ H1 G1 (S.grow g1)) fun xs H2 ⟨ds, G2, q2, g2, a2⟩ =>
    ⟨d1 :: ds, G2, by rw [q1, q2], g1.trans S.bag g2, .cons (a1.mono g2.g) a2⟩)
def tCallK0 (sp : Sp) (gV : List V → List V → List V) (E : XK) (tk : TA) : TE := fun σ H Q => tk σ H fun zs H2 => sp (gV [] zs) H2 Q E
theorem pe_callK0 {CX : CXT} {k : Nat} {f : Addr} {fd : FuncData} {ps ks : List Str} {sp : Sp} {E : XK} {x : Str} {p : Pos} {kws : List Keyword} {tk : TA} {g : List Value → List Value → List Value} {gV : List V → List V → List V} (F : FnOk X.prog X.w X.K X.mg X.base CX k f fd ps sp) (hr : Room k X.A) (hg : Gl X x) (hm : X.mg x = some (.ref f)) (hk : PySem.W.keepIn X.K (.ref f) = true) (hb : KBinds X.K fd ps ks g gV) (hx : Passes CX X E)
    (hkw : PK X kws tk) (hall : (backToKw pos (keywordEach kws X.env)).all (·.1.isSome) = true := by rfl) (hks : (backToKw pos (keywordEach kws X.env)).filterMap (·.1) = ks := by rfl)
    (hdb : (x == ("__debug__" : Str)) = false := by decide) (hpl : ((backTo pos (starEach [] X.env)).any (·.1) || (backToKw pos (keywordEach kws X.env)).any (·.1.isNone)) = false := by rfl) :
    PE X (.Call (.Name x p) [] kws pos) (tCallK0 sp gV E tk) := by
  refine ⟨fun pins s σ H Q I h => ?_⟩
  refine wpAny_Call_Name_kw (ld_glob I hg hm ?_ hdb)
  refine PySem.W.callWith_KW0 (h₀ := X.base) I.ok.mod.kin hk hall (thn (hkw.run pos pins s σ H _ I h) fun ws s2 ⟨zs, H2, I2, rz, q2⟩ => ⟨I2.kIn, ?_⟩) hpl
  rw [hks]
  exact run_fnk (us := []) (vs := []) F hr hb hx I2 .nil rz q2
theorem e_callK {x : Str} {p : Pos} {kws : List Keyword} {f : Addr} {fd : FuncData} {ps ks : List Str} {g : List Value → List Value → List Value} {gV : List V → List V → List V} {k : Nat} {T : List PyData → (PyData → Prop) → Prop} {Qa : List PyData → Prop} {R : PyData → Prop}
    (F : FnOk X.prog X.w X.K X.mg X.base CX0 k f fd ps (spD T)) (hr : Room k X.A) (hm : X.mg x = some (.ref f)) (hk : PySem.W.keepIn X.K (.ref f) = true) (hb : KBinds X.K fd ps ks g gV)
    (ha : DK X c kws ρ Qa) (ht : ∀ G zs ds, Qa ds → AtAll G zs ds → ∃ ds', AtAll G (gV [] zs) ds' ∧ T ds' R) (hall : (backToKw pos (keywordEach kws X.env)).all (·.1.isSome) = true := by rfl) (hks : (backToKw pos (keywordEach kws X.env)).filterMap (·.1) = ks := by rfl)
    (hg : Gl X x := by rfl) (hdb : (x == ("__debug__" : Str)) = false := by decide) (hpl : ((backTo pos (starEach [] X.env)).any (·.1) || (backToKw pos (keywordEach kws X.env)).any (·.1.isNone)) = false := by rfl) :
    DE X c (.Call (.Name x p) [] kws pos) ρ R := fun σ H G S =>
  tW_of (pe_callK0 F hr hg hm hk hb pass0 pkW hall hks hdb hpl) (tWK_mono (ha σ H G S) fun zs H1 ⟨ds, G1, q, gr, a⟩ => by
    obtain ⟨ds', a', t⟩ := ht G1 zs ds q a
    exact ⟨G1, ds', R, gr.e, a', t, fun v d G' H' r g' a' => ⟨d, G', r, gr.trans S.bag g'.any, a'⟩⟩)

/-! ### tests -/
theorem t_val {Q : PyData → Prop} {Q' : Bool → Prop} (h : DE X c e ρ Q) (m : ∀ d, Q d → ∃ k, d = .bool k ∧ Q' k) (he : ∀ whole, isTrue e X.env whole = (do let v ← whole; standAt e.pos; holding [v] (truthy v)) := by intro _; rfl) : DT X c e ρ Q' := fun σ H G S =>
  tWT_of (pt_val peW he) (tW_mono (h σ H G S) fun x H1 ⟨d, G1, q, g, a⟩ => by
    obtain ⟨k, rfl, q'⟩ := m d q
    cases a
    exact ⟨k, rfl, G1, q', g⟩)
theorem t_dv {k : Bool} (h : DV X c e ρ (.bool k)) (he : ∀ whole, isTrue e X.env whole = (do let v ← whole; standAt e.pos; holding [v] (truthy v)) := by intro _; rfl) : DT X c e ρ (fun k' => k' = k) := t_val h (fun d q => ⟨k, q, rfl⟩) he
/-- a comparison as a test -/
theorem t_cmp {op : CmpOp} {r : R2} {Qa Qb Q : PyData → Prop} {Q' : Bool → Prop} (ho : OpR X (compareOp op) r) (ha : DE X c a ρ Qa) (hb : DE X c b ρ Qb) (hr : ∀ d1 d2, Qa d1 → Qb d2 → OpD r d1 d2 Q) (m : ∀ d, Q d → ∃ k, d = .bool k ∧ Q' k)
    (hm : behindInMarks op b = false := by first | exact nomark _ | rfl) : DT X c (.Compare a [op] [b] pos) ρ Q' := fun σ H G S =>
  tWT_of (pt_cmpR ho peW peW hm) (bin2 ha hb S fun x y d1 d2 H2 G2 q1 q2 g a1 a2 => hr d1 d2 q1 q2 c.b x y G2 H2 _ g.e a1 a2 fun v H' d G' q g' a' => by
    obtain ⟨k, rfl, q'⟩ := m d q
    cases a'
    exact ⟨k, rfl, G', q', g.trans S.bag g'⟩)
theorem t_not {Q Q' : Bool → Prop} (h : DT X c e ρ Q) (m : ∀ k, Q k → Q' (!k)) : DT X c (.UnaryOp .Not e pos) ρ Q' := fun σ H G S =>
  tWT_of (pt_not ptW) (tWT_mono (h σ H G S) fun k H1 ⟨G1, q, g⟩ => ⟨G1, m k q, g⟩)
theorem t_pw {Q : Bool → Prop} (h : DW X c e ρ Q) : DT X c e ρ Q := fun σ H G S => tWT_of pwW.pt (h σ H G S)
theorem w_and1 {Q : Bool → Prop} (h : DT X c a ρ Q) : DW X c (.BoolOp .And [a] pos) ρ Q := fun σ H G S => tWW_of (pw_and1 ptW) (h σ H G S)
theorem w_or1 {Q : Bool → Prop} (h : DT X c a ρ Q) : DW X c (.BoolOp .Or [a] pos) ρ Q := fun σ H G S => tWW_of (pw_or1 ptW) (h σ H G S)
theorem w_and {rest : List Expr} {Q1 Q2 Q : Bool → Prop} (h1 : DT X c a ρ Q1) (h2 : Q1 true → DW X c (.BoolOp .And (b :: rest) pos) ρ Q2) (m1 : Q1 false → Q false) (m2 : ∀ k, Q1 true → Q2 k → Q k) : DW X c (.BoolOp .And (a :: b :: rest) pos) ρ Q := fun σ H G S =>
  tWW_of (pw_and ptW pwW) (tWT_mono (h1 σ H G S) fun k H1 ⟨G1, q, g⟩ => by
    cases k with
    | true =>
      show tWW X _ σ H1 _
      exact tWW_mono (h2 q σ H1 G1 (S.grow g)) fun k2 H2 ⟨G2, q2, g2⟩ => ⟨G2, m2 k2 q q2, g.trans S.bag g2⟩
    | false => exact ⟨G1, m1 q, g⟩)
theorem w_or {rest : List Expr} {Q1 Q2 Q : Bool → Prop} (h1 : DT X c a ρ Q1) (h2 : Q1 false → DW X c (.BoolOp .Or (b :: rest) pos) ρ Q2) (m1 : Q1 true → Q true) (m2 : ∀ k, Q1 false → Q2 k → Q k) : DW X c (.BoolOp .Or (a :: b :: rest) pos) ρ Q := fun σ H G S =>
  tWW_of (pw_or ptW pwW) (tWT_mono (h1 σ H G S) fun k H1 ⟨G1, q, g⟩ => by
    cases k with
    | false =>
      show tWW X _ σ H1 _
      exact tWW_mono (h2 q σ H1 G1 (S.grow g)) fun k2 H2 ⟨G2, q2, g2⟩ => ⟨G2, m2 k2 q q2, g.trans S.bag g2⟩
    | true => exact ⟨G1, m1 q, g⟩)
/-- with known answers -/
theorem t_and {k1 k2 : Bool} (h1 : DT X c a ρ (fun k => k = k1)) (h2 : k1 = true → DT X c b ρ (fun k => k = k2)) : DT X c (.BoolOp .And [a, b] pos) ρ (fun k => k = (k1 && k2)) :=
  t_pw (w_and h1 (fun q => w_and1 (h2 q.symm)) (fun q => by rw [← q]; rfl) (fun k q1 q2 => by rw [← q1, q2]; rfl))
theorem t_or {k1 k2 : Bool} (h1 : DT X c a ρ (fun k => k = k1)) (h2 : k1 = false → DT X c b ρ (fun k => k = k2)) : DT X c (.BoolOp .Or [a, b] pos) ρ (fun k => k = (k1 || k2)) :=
  t_pw (w_or h1 (fun q => w_or1 (h2 q.symm)) (fun q => by rw [← q]; rfl) (fun k q1 q2 => by rw [← q1, q2]; rfl))
theorem t_notV {k : Bool} (h : DT X c e ρ (fun k' => k' = k)) : DT X c (.UnaryOp .Not e pos) ρ (fun k' => k' = !k) := t_not h fun k' q => by rw [q]
/-! ### and, or, not, if as values -/
theorem e_one {op : BoolOp} {Q : PyData → Prop} (h : DE X c a ρ Q) : DE X c (.BoolOp op [a] pos) ρ Q := fun σ H G S => tW_of (pe_one peW) (h σ H G S)
theorem e_and {rest : List Expr} {k1 k2 : Bool} (h1 : DV X c a ρ (.bool k1)) (h2 : k1 = true → DV X c (.BoolOp .And (b :: rest) pos) ρ (.bool k2)) : DV X c (.BoolOp .And (a :: b :: rest) pos) ρ (.bool (k1 && k2)) := fun σ H G S =>
  tW_of (pe_and peW peW) (tW_mono (h1 σ H G S) fun x H1 ⟨d, G1, q, g, a⟩ => by
    subst q
    cases a
    refine ⟨k1, rfl, ?_⟩
    cases k1 with
    | true =>
      show tW X _ σ H1 _
      exact tW_mono (h2 rfl σ H1 G1 (S.grow g)) fun y H2 ⟨d2, G2, q2, g2, a2⟩ => ⟨d2, G2, q2, g.trans S.bag g2, a2⟩
    | false => exact ⟨.bool false, G1, rfl, g, .bl false⟩)
theorem e_or {rest : List Expr} {k1 k2 : Bool} (h1 : DV X c a ρ (.bool k1)) (h2 : k1 = false → DV X c (.BoolOp .Or (b :: rest) pos) ρ (.bool k2)) : DV X c (.BoolOp .Or (a :: b :: rest) pos) ρ (.bool (k1 || k2)) := fun σ H G S =>
  tW_of (pe_or peW peW) (tW_mono (h1 σ H G S) fun x H1 ⟨d, G1, q, g, a⟩ => by
    subst q
    cases a
    refine ⟨k1, rfl, ?_⟩
    cases k1 with
    | false =>
      show tW X _ σ H1 _
      exact tW_mono (h2 rfl σ H1 G1 (S.grow g)) fun y H2 ⟨d2, G2, q2, g2, a2⟩ => ⟨d2, G2, q2, g.trans S.bag g2, a2⟩
    | true => exact ⟨.bool true, G1, rfl, g, .bl true⟩)
theorem e_not {k : Bool} (h : DV X c a ρ (.bool k)) : DV X c (.UnaryOp .Not a pos) ρ (.bool (!k)) := fun σ H G S =>
  tW_of (pe_not peW) (tW_mono (h σ H G S) fun x H1 ⟨d, G1, q, g, a⟩ => by
    subst q
    cases a
    exact ⟨k, rfl, .bool (!k), G1, rfl, g, .bl _⟩)
theorem e_if {t : Expr} {Q1 : Bool → Prop} {Q : PyData → Prop} (ht : DT X c t ρ Q1) (ha : Q1 true → DE X c a ρ Q) (hb : Q1 false → DE X c b ρ Q) : DE X c (.IfExp t a b pos) ρ Q := fun σ H G S =>
  tW_of (pe_ifExp ptW peW peW) (tWT_mono (ht σ H G S) fun k H1 ⟨G1, q, g⟩ => by
    cases k with
    | true =>
      show tW X _ σ H1 _
      exact tW_mono (ha q σ H1 G1 (S.grow g)) fun y H2 ⟨d2, G2, q2, g2, a2⟩ => ⟨d2, G2, q2, g.trans S.bag g2, a2⟩
    | false =>
      show tW X _ σ H1 _
      exact tW_mono (hb q σ H1 G1 (S.grow g)) fun y H2 ⟨d2, G2, q2, g2, a2⟩ => ⟨d2, G2, q2, g.trans S.bag g2, a2⟩)
/-- a < b < c -/
theorem e_chain {op op' : CmpOp} {d1 d2 d3 : PyData} {k1 k2 : Bool} {r r' : R2} {e3 : Expr} (ho : OpR X (compareOp op) r) (ho' : OpR X (compareOp op') r') (ha : DV X c a ρ d1) (hb : DV X c b ρ d2) (hc : DV X c e3 ρ d3) (h1 : OpD r d1 d2 (fun d => d = .bool k1)) (h2 : OpD r' d2 d3 (fun d => d = .bool k2))
    (hm : lastMarks [op, op'] [b, e3] = false := by with_unfolding_all rfl) : DV X c (.Compare a [op, op'] [b, e3] pos) ρ (.bool (k1 && k2)) := fun σ H G S =>
  tW_of (pe_chain ho ho' peW peW peW hm) (bin2 ha hb S fun x y d1' d2' H2 G2 q1 q2 g a1 a2 => by
    subst q1 q2
    refine h1 c.b x y G2 H2 _ g.e a1 a2 fun v H' d G' q g' a' => ?_
    subst q
    cases a'
    refine ⟨k1, rfl, ?_⟩
    cases k1 with
    | true =>
      show tW X _ σ H' _
      refine tW_mono (hc σ H' G' (S.grow (g.trans S.bag g'))) fun z H3 ⟨d3', G3, q3, g3, a3⟩ => ?_
      subst q3
      refine h2 c.b y z G3 H3 _ g3.e ((a2.mono g'.g).mono g3.g) a3 fun v4 H4 d4 G4 q4 g4 a4 => ⟨d4, G4, q4, (((g.trans S.bag g').trans S.bag g3).trans S.bag g4), a4⟩
    | false => exact ⟨.bool false, G', rfl, g.trans S.bag g', .bl false⟩)

/-! ### slices, methods -/
def DPart (X : Cx) (c : Ctx) (e : Option Expr) (ρ : Rho) (o : Option PyData → Prop) : Prop := match e with
  | none => o none
  | some e => DE X c e ρ (fun d => o (some d))
theorem e_slice {r : V → Option Int → Option Int → Hp → VK → Prop} {lo hi : Option Expr} {p2 : Pos} {Qa : PyData → Prop} {Ql Qh : Option Int → Prop} {Q : PyData → Prop} (hr : SlR X r) (ha : DE X c a ρ Qa) (tl : TO) (th : TO) (hl : PO X lo tl) (hu : PO X hi th)
    (hl' : ∀ σ H G, St c G σ H ρ → tl σ H fun l H1 => ∃ G', Ql l ∧ Grow c.b G H G' H1) (ml : ∀ σ H Q Q', tl σ H Q → (∀ o H', Q o H' → Q' o H') → tl σ H Q')
    (hh' : ∀ σ H G, St c G σ H ρ → th σ H fun l H1 => ∃ G', Qh l ∧ Grow c.b G H G' H1) (mh : ∀ σ H Q Q', th σ H Q → (∀ o H', Q o H' → Q' o H') → th σ H Q')
    (k : ∀ d l u, Qa d → Ql l → Qh u → ∀ b x G H Qv, Ex G H → At G x d → Post b G H Q Qv → r x l u H Qv) : DE X c (.Subscript a (.Slice lo hi none p2) pos) ρ Q := fun σ H G S =>
  tW_of (pe_slice hr peW hl hu) (tW_mono (ha σ H G S) fun x H1 ⟨d, G1, q, g, at1⟩ => ml _ _ _ _ (hl' σ H1 G1 (S.grow g)) fun l H2 ⟨G2, ql, g2⟩ => mh _ _ _ _ (hh' σ H2 G2 ((S.grow g).grow g2)) fun u H3 ⟨G3, qu, g3⟩ =>
    k d l u q ql qu c.b x G3 H3 _ g3.e ((at1.mono g2.g).mono g3.g) fun v H4 d4 G4 q4 g4 a4 => ⟨d4, G4, q4, ((g.trans S.bag g2).trans S.bag g3).trans S.bag g4, a4⟩)
/-- a bound of a slice: nothing, or an int -/
structure Bd (X : Cx) (c : Ctx) (e : Option Expr) (ρ : Rho) (Q : Option Int → Prop) : Prop where
  ex : ∃ t : TO, PO X e t ∧ (∀ σ H G, St c G σ H ρ → t σ H fun l H1 => ∃ G', Q l ∧ Grow c.b G H G' H1) ∧ ∀ σ H Q Q', t σ H Q → (∀ o H', Q o H' → Q' o H') → t σ H Q'
theorem bd_no : Bd X c none ρ (fun o => o = none) := ⟨⟨tNoPart, po_none, fun σ H G S => ⟨G, rfl, Grow.refl S.gr.e⟩, fun σ H Q Q' h m => m _ _ h⟩⟩
theorem bd_is {Q : PyData → Prop} {Q' : Option Int → Prop} (h : DE X c e ρ Q) (m : ∀ d, Q d → ∃ i, d = .int i ∧ Q' (some i)) : Bd X c (some e) ρ Q' := by
  refine ⟨⟨tPart (tW X e), po_some peW, fun σ H G S => ?_, fun σ H Q Q' h m => ?_⟩⟩
  · exact tW_mono (h σ H G S) fun x H1 ⟨d, G1, q, g, a⟩ => by
      obtain ⟨i, rfl, q'⟩ := m d q
      cases a
      exact ⟨i, rfl, G1, q', g⟩
  · exact tW_mono h fun x H1 ⟨i, e1, q⟩ => ⟨i, e1, m _ _ q⟩
theorem bd_int {i : Int} (h : DV X c e ρ (.int i)) : Bd X c (some e) ρ (fun o => o = some i) := bd_is h fun d q => ⟨i, q, rfl⟩
theorem e_sl {r : V → Option Int → Option Int → Hp → VK → Prop} {lo hi : Option Expr} {p2 : Pos} {Qa : PyData → Prop} {Ql Qh : Option Int → Prop} {Q : PyData → Prop} (hr : SlR X r) (ha : DE X c a ρ Qa) (hl : Bd X c lo ρ Ql) (hh : Bd X c hi ρ Qh)
    (k : ∀ d l u, Qa d → Ql l → Qh u → ∀ b x G H Qv, Ex G H → At G x d → Post b G H Q Qv → r x l u H Qv) : DE X c (.Subscript a (.Slice lo hi none p2) pos) ρ Q := by
  obtain ⟨tl, h1, h2, h3⟩ := hl.ex
  obtain ⟨th, k1, k2, k3⟩ := hh.ex
  exact e_slice hr ha tl th h1 k1 h2 h3 k2 k3 k
theorem o_sl {r : V → Option Int → Option Int → Hp → VK → Prop} {lo hi : Option Expr} {p2 : Pos} {Qa : PyData → Prop} {Ql Qh : Option Int → Prop} {Q : List PyData → Prop} (hr : SlR X r) (ha : DE X c a ρ Qa) (hl : Bd X c lo ρ Ql) (hh : Bd X c hi ρ Qh)
    (k : ∀ d l u, Qa d → Ql l → Qh u → ∀ b x G H Qv, Ex G H → At G x d → PostO b G H Q Qv → r x l u H Qv) : DO X c (.Subscript a (.Slice lo hi none p2) pos) ρ Q := by
  obtain ⟨tl, h1, h2, h3⟩ := hl.ex
  obtain ⟨th, k1, k2, k3⟩ := hh.ex
  exact fun σ H G S => tW_of (pe_slice hr peW h1 k1) (tW_mono (ha σ H G S) fun x H1 ⟨d, G1, q, g, at1⟩ => h3 _ _ _ _ (h2 σ H1 G1 (S.grow g)) fun l H2 ⟨G2, ql, g2⟩ => k3 _ _ _ _ (k2 σ H2 G2 ((S.grow g).grow g2)) fun u H3 ⟨G3, qu, g3⟩ =>
    k d l u q ql qu c.b x G3 H3 _ g3.e ((at1.mono g2.g).mono g3.g) fun p H4 ds G4 vs q4 g4 n h' gn a4 => ⟨ds, G4, p, vs, q4, ((g.trans S.bag g2).trans S.bag g3).trans S.bag g4, rfl, ((g.trans S.bag g2).trans S.bag g3).none S.bag n, h', gn, a4⟩)
end
end DL

/-! ## text DL3 -/
set_option Elab.async false
set_option linter.all false
set_option maxRecDepth 100000
set_option maxHeartbeats 4000000
/-! DL3: comprehensions, loops, statements, defs. -/
namespace DL
open PySem PySem.Spec PyProof.Rows L2

/-! ### targets -/
def Bnd.g (K : PySem.W.Frag) : Bnd → TG
  | .one i => gName i
  | .two i j => gTup K 2 (gCons (gName i) (gCons (gName j) gNil))
def Bnd.lt : Bnd → Nat → Prop
  | .one i, n => i < n
  | .two i j, n => i < n ∧ j < n
def Bnd.sl : Bnd → List Nat
  | .one i => [i]
  | .two i j => [i, j]
theorem Bnd.run {B : Bnd} {K : PySem.W.Frag} {c : Ctx} {G H : Hp} {σ : L2.St} {ρ : Rho} {v : V} {d : PyData} (S : St c G σ H ρ) (a : B.At G v d) (hok : B.ok d) (hl : B.lt c.n) {Q : L2.St → Hp → Prop}
    (k : ∀ σ', St c G σ' H (B.put d ρ) → (∀ vs : List Nat, (∀ i ∈ B.sl, i ∈ vs) → wipe σ' vs = wipe σ vs) → (∀ (j : Nat) (ds : List PyData), (B.put d ρ)[j]? = some (some (.own ds)) → ρ[j]? = some (some (.own ds)) ∧ σ'[j]? = σ[j]?) → Q σ' H) : B.g K v σ H Q := by
  have key : ∀ {ρ : Rho} {σ : L2.St} {i j : Nat} {d : PyData} {x : Option V} {ds : List PyData}, (ρ.set i (some (.dat d)))[j]? = some (some (.own ds)) → ρ[j]? = some (some (.own ds)) ∧ (σ.set i x)[j]? = σ[j]? := by
    intro ρ σ i j d x ds h
    by_cases e : i = j
    · subst e
      have hl : i < ρ.length := by
        have := (List.getElem?_eq_some_iff.mp h).1
        rw [List.length_set] at this; exact this
      rw [List.getElem?_set_self hl] at h; cases h
    · rw [List.getElem?_set_ne e] at h ⊢
      exact ⟨h, rfl⟩
  cases B with
  | one i => exact k _ (S.putD a hl) (fun vs h => wipe_set (h i (List.mem_singleton.mpr rfl))) fun j ds h => key h
  | two i j =>
    obtain ⟨x, y, rfl⟩ := hok
    obtain ⟨p, xs, rfl, h1, h2⟩ := Atw.sqT (K := K) S.gr.e a
    cases h2 with
    | cons a1 t =>
      cases t with
      | cons a2 t =>
        cases t
        refine ⟨p, _, rfl, h1, rfl, _, _, rfl, _, _, rfl, rfl, ?_⟩
        exact k _ ((S.putD a1 hl.1).putD a2 hl.2) (fun vs h => by
          rw [wipe_set (h j (List.mem_cons_of_mem _ (List.mem_singleton.mpr rfl))), wipe_set (h i List.mem_cons_self)]) fun m ds h => by
            obtain ⟨h1, h2⟩ := key (σ := σ.set i _) (x := some _) h
            obtain ⟨h3, h4⟩ := key (σ := σ) (x := some _) h1
            exact ⟨h3, h2.trans h4⟩
/-- D is no own list -/
def NoD (σ : L2.St) (ρ : Rho) (D : Addr) : Prop := ∀ (i : Nat) (ds : List PyData), ρ[i]? = some (some (.own ds)) → σ[i]? ≠ some (some (.ref D))
theorem St.noD {c : Ctx} {G H : Hp} {σ : L2.St} {ρ : Rho} {D : Addr} (S : St c G σ H ρ) (h : H D = none) : NoD σ ρ D := fun i ds e q => by
  obtain ⟨v, h1, p, vs, rfl, h2, _⟩ := S.sl i _ e
  rw [h1] at q
  cases q
  rw [h] at h2; cases h2
theorem NoD.wip {σ : L2.St} {ρ : Rho} {D : Addr} (n : NoD σ ρ D) (vs : List Nat) : NoD (wipe σ vs) (DL.wip ρ vs) D := fun i ds e q => by
  obtain ⟨h1, h2⟩ := wip_some e
  rw [wipe_get h2] at q
  exact n i ds h1 q
theorem St.hid {c : Ctx} {G H : Hp} {σ : L2.St} {ρ : Rho} {D : Addr} {o : HO} (S : St c G σ H ρ) (no : NoD σ ρ D) (hG : G D = none) (h0 : c.H0 D = none) (hb : c.b ≠ some D) : St c G σ (upd H D o) ρ :=
  ⟨S.len, ⟨S.gr.g, S.gr.e.mut hG, S.gr.f, fun a u n q => by rw [upd_ne (ne_of_none q h0)]; exact S.gr.h a u n q, fun z a q => by rw [upd_ne (fun y => hb (by rw [q, y]))]; exact S.gr.bg z a q⟩,
    fun a q => by rw [upd_ne (fun y => hb (by rw [q, y]))]; exact S.bag a q, S.bag0, S.bagG, fun i s h => by
      obtain ⟨v, k1, k2⟩ := S.sl i s h
      refine ⟨v, k1, ?_⟩
      cases s with
      | own ds =>
        obtain ⟨q, us, e1, k3, k4, k5, k6, k7⟩ := k2
        refine ⟨q, us, e1, ?_, k4, k5, k6, k7⟩
        have hq : q ≠ D := fun z => no i ds h (by rw [k1, e1, z])
        rw [upd_ne hq]; exact k3
      | dat d => exact k2
      | bag => exact k2
      | raw w => exact k2, S.ne⟩
section
variable {X : Cx} {pos : Pos}
theorem tg_one {i : Nat} {x : Str} (hN : X.N.Nodup) (hi : X.N[i]? = some x) (hx : Loc X.env.scope x) (hf : X.fn x = true ∨ X.env.scope.names.lookup x = some .local := by first | exact .inl rfl | exact .inr rfl | assumption) : PG X (.Name x pos) (Bnd.g X.K (.one i)) := pg_name hN hi hx hf
theorem tg_two {i j : Nat} {x y : Str} {px py : Pos} {k : Nat} (hc : X.calm = true) (hN : X.N.Nodup) (hi : X.N[i]? = some x) (hj : X.N[j]? = some y) (hx : Loc X.env.scope x) (hy : Loc X.env.scope y)
    (hf : X.fn x = true ∨ X.env.scope.names.lookup x = some .local := by first | exact .inl rfl | exact .inr rfl | assumption) (hf' : X.fn y = true ∨ X.env.scope.names.lookup y = some .local := by first | exact .inl rfl | exact .inr rfl | assumption)
    (hn : (assignEach [.Name x px, .Name y py] X.env).length = 2 := by rfl) (hst : (assignEach [.Name x px, .Name y py] X.env).findIdx? (·.1) = none := by rfl) : PG X (.Tuple [.Name x px, .Name y py] k pos) (Bnd.g X.K (.two i j)) :=
  pg_tup hc (pgs_cons (pg_name hN hi hx hf) (pgs_cons (pg_name hN hj hy hf') pgs_nil)) hn hst
end

/-! ### comprehensions -/
theorem grow_upd {b : Option Addr} {G H G' H' : Hp} {p : Addr} {o : HO} (x : Grow b G H G' H') (h1 : H p = none) (h2 : G' p = none) (h3 : b ≠ some p) : Grow b G H G' (upd H' p o) :=
  ⟨x.g, x.e.mut h2, x.f, fun a u n q => by rw [upd_ne (ne_of_none q h1)]; exact x.h a u n q, fun z a q => by rw [upd_ne (fun y => h3 (by rw [q, y]))]; exact x.bg z a q⟩
def tWTs (X : Cx) (ifs : List Expr) : TT := fun σ H Q => ∀ (pins : List (Addr × Obj)) (s : Shared), Inv X pins σ H s →
    wpAny (model X.prog X.w) X.A (forIn ifs true fun c r => if r = true then do let ok ← isTrue c X.env (eval c X.env); pure (ForInStep.yield ok) else pure (ForInStep.yield r)) (TP X pins σ Q) X.xe s
theorem ptsW {X : Cx} {ifs : List Expr} : PTs X ifs (tWTs X ifs) := ⟨fun pins s σ H Q I h => h pins s I⟩
theorem tWTs_of {X : Cx} {ifs : List Expr} {t : TT} {σ : L2.St} {H : Hp} {Q : Bool → Hp → Prop} (p : PTs X ifs t) (h : t σ H Q) : tWTs X ifs σ H Q := fun pins s I => p.run pins s σ H Q I h
theorem tWTs_mono {X : Cx} {ifs : List Expr} {σ : L2.St} {H : Hp} {Q Q' : Bool → Hp → Prop} (h : tWTs X ifs σ H Q) (m : ∀ v H', Q v H' → Q' v H') : tWTs X ifs σ H Q' := fun pins s I =>
  thn (h pins s I) fun u s1 ⟨H1, I1, q⟩ => ⟨H1, I1, m u H1 q⟩
/-- a clause's tests answer k -/
def DTs (X : Cx) (c : Ctx) (ifs : List Expr) (ρ : Rho) (k : Bool) : Prop := ∀ σ H G, St c G σ H ρ → tWTs X ifs σ H fun b H' => ∃ G', b = k ∧ Grow c.b G H G' H'
theorem ts_nil {X : Cx} {c : Ctx} {ρ : Rho} : DTs X c [] ρ true := fun σ H G S => tWTs_of pts_nil ⟨G, rfl, Grow.refl S.gr.e⟩
theorem ts_one {X : Cx} {c : Ctx} {ρ : Rho} {e : Expr} {k : Bool} (h : DT X c e ρ (fun k' => k' = k)) : DTs X c [e] ρ k := fun σ H G S => tWTs_of (pts_one ptW) (h σ H G S)

/-- a comprehension: as a new list, and given to a name -/
def PO (c : Ctx) (G H : Hp) (Q : List PyData → Prop) : VK := fun v H' => ∃ ds G' p vs, Q ds ∧ Grow c.b G H G' H' ∧ v = .ref p ∧ H p = none ∧ H' p = some (.lst vs) ∧ G' p = none ∧ AtAll G' vs ds
def DC (X : Cx) (c : Ctx) (e : Expr) (ρ : Rho) (Q : List PyData → Prop) : Prop := ∀ σ H G, St c G σ H ρ → tW X e σ H (PO c G H Q) ∧
  ∀ (i : Nat) (y : Str) (py spos : Pos), X.N[i]? = some y → X.env.scope.names.lookup y = some .local → swapsWith e (some (.Name y py)) spos.line X.env = pure true → ∀ D : Ends, (∀ v H', PO c G H Q v H' → D.nx (σ.set i (some v)) H') → tWS X (.Assign [.Name y py] e spos) D σ H
theorem DC.o {X : Cx} {c : Ctx} {e : Expr} {ρ : Rho} {Q : List PyData → Prop} (h : DC X c e ρ Q) : DO X c e ρ Q := fun σ H G S => (h σ H G S).1
theorem DC.imp {X : Cx} {c : Ctx} {e : Expr} {ρ : Rho} {Q Q' : List PyData → Prop} (h : DC X c e ρ Q) (m : ∀ ds, Q ds → Q' ds) : DC X c e ρ Q' := fun σ H G S =>
  ⟨tW_mono (h σ H G S).1 fun v H' ⟨d, G', p, vs, q, r⟩ => ⟨d, G', p, vs, m d q, r⟩, fun i y py spos h1 h2 h3 D hn => (h σ H G S).2 i y py spos h1 h2 h3 D fun v H' ⟨d, G', p, vs, q, r⟩ => hn v H' ⟨d, G', p, vs, m d q, r⟩⟩
section
variable {X : Cx} {c : Ctx} {ρ : Rho} {pos : Pos}
/-- the blocks of a comprehension of scope -/
abbrev Blk (X : Cx) (scope : Scope) (P : Cx → Prop) : Prop := ∀ (s : Shared) (H : Hp) (C : Addr) (cl : List (Str × Addr)) (fp : List Addr), P (X.blk s H scope (compEnvC scope cl C X.env) fp)
theorem o_lc {α : Type} {xs : List α} {enc : α → PyData} {p : α → Bool} {f : α → PyData} {B : Bnd} {elt tg iter : Expr} {ifs : List Expr} {scope : Scope} (own : List (Str × Nat)) (hc : X.calm = true) (hN : X.N.Nodup) (ok : BlkOk X.N X.env.scope scope own) (hB : ∀ i ∈ B.sl, i ∈ own.map (·.2)) (hlt : B.lt c.n)
    (hi : DI X c B tg iter ρ (fun as => as = xs.map enc)) (hok : ∀ x ∈ xs, B.ok (enc x)) (hg : Blk X scope fun X' => PG X' tg (B.g X.K))
    (ht : ∀ x ∈ xs, Blk X scope fun X' => DTs X' c ifs (B.put (enc x) (wip ρ (own.map (·.2)))) (p x))
    (he : ∀ x ∈ xs, p x = true → Blk X scope fun X' => DV X' c elt (B.put (enc x) (wip ρ (own.map (·.2)))) (f x)) (hlen : xs.length ≤ 100000)
    (hs : ∀ x, foldedSetIterable iter X.env x = pure x := by intro _; rfl) :
    DC X c (.ListComp elt [⟨tg, iter, ifs, 0⟩] scope pos) ρ (fun ds => ds = (xs.filter p).map f) := fun σ H G S => by
  have rd : ∀ Qv : VK, (∀ v H', PO c G H (fun ds => ds = (xs.filter p).map f) v H' → Qv v H') → tLc (tWI X tg iter) (B.g X.K) (fun σ H Q => Blk X scope fun X' => tWTs X' ifs σ H Q) (fun σ H Q => Blk X scope fun X' => tW X' elt σ H Q) (own.map (·.2)) σ H Qv := by
    intro Qv hQ
    refine tWI_mono (hi σ H G S) fun J H1 ⟨as, G1, e1, g1, wk⟩ D hD => ?_
    subst e1
    have hDH : H D = none := g1.none S.bag hD
    have hDb : c.b ≠ some D := fun q => by
      obtain ⟨_, _, _, z⟩ := (g1.bg S.bag) D q
      rw [hD] at z; cases z
    have hDG : G1 D = none := g1.e.none hD
    refine ⟨fun i m H' => m = xs.length - i ∧ i ≤ xs.length ∧ ∃ G' acc, Grow c.b G H G' H' ∧ Ex G1 G' ∧ G' D = none ∧ H' D = some (.lst acc) ∧ AtAll G' acc (((xs.take i).filter p).map f), ⟨xs.length, rfl, Nat.zero_le _, G1, [], grow_upd g1 hDH hDG hDb, Ex.refl _, hDG, upd_same, .nil⟩, ?_⟩
    rintro i m H' ⟨rfl, hi', G', acc, g', e', n', hacc, at'⟩
    by_cases hlt' : i < xs.length
    · have hx : xs[i]? = some xs[i] := List.getElem?_eq_getElem hlt'
      have hxe : (xs.map enc)[i]? = some (enc xs[i]) := by rw [List.getElem?_map, hx]; rfl
      have hmem : xs[i] ∈ xs := List.getElem_mem hlt'
      have etake : (xs.take (i + 1)) = xs.take i ++ [xs[i]] := by rw [List.take_add_one, hx]; rfl
      refine .inr ⟨wk.go G' H' i _ e' g'.e hxe, fun H'' => ∃ G'' acc'', Grow c.b G H G'' H'' ∧ Ex G1 G'' ∧ G'' D = none ∧ H'' D = some (.lst acc'') ∧ AtAll G'' acc'' (((xs.take (i + 1)).filter p).map f),
        fun H'' q => ⟨xs.length - (i + 1), by omega, rfl, hlt', q⟩, fun x H2 hy => ?_⟩
      obtain ⟨G2, g2, a2⟩ := wk.yld G' H' i _ x H2 e' g'.e hxe hy
      have g12 := g'.trans S.bag g2
      have hD2 : H2 D = some (.lst acc) := g2.h D _ hDb hacc
      have nD2 : G2 D = none := by rw [g2.f D (by rw [hacc]; exact fun z => nomatch z)]; exact n'
      have S2 : St c G2 (wipe σ (own.map (·.2))) H2 (wip ρ (own.map (·.2))) := (S.grow g12).wip _
      refine Bnd.run S2 a2 (hok _ hmem) hlt fun σ2 S3 hw hw2 => ⟨by rw [hw _ hB, wipe_wipe], fun s0 H0 C cl fp => ?_⟩
      refine tWTs_mono (ht _ hmem s0 H0 C cl fp σ2 H2 G2 S3) fun b H3 ⟨G3, eb, g3⟩ => ?_
      have hD3 : H3 D = some (.lst acc) := g3.h D _ hDb hD2
      have nD3 : G3 D = none := by rw [g3.f D (by rw [hD2]; exact fun z => nomatch z)]; exact nD2
      have g13 := g12.trans S.bag g3
      subst eb
      by_cases hp : p xs[i] = true
      · rw [if_pos hp]
        intro s0 H0 C cl fp
        refine tW_mono (he _ hmem hp s0 H0 C cl fp σ2 H3 G3 (S3.grow g3)) fun y H4 ⟨d, G4, ed, g4, a4⟩ => ?_
        subst ed
        have hD4 : H4 D = some (.lst acc) := g4.h D _ hDb hD3
        have nD4 : G4 D = none := by rw [g4.f D (by rw [hD3]; exact fun z => nomatch z)]; exact nD3
        have g14 := g13.trans S.bag g4
        refine ⟨acc, hD4, ?_, G4, acc ++ [y], grow_upd g14 hDH nD4 hDb, ((e'.trans g2.g).trans g3.g).trans g4.g, nD4, upd_same, ?_⟩
        · have h1 := at'.length
          rw [List.length_map] at h1
          have h2 := List.length_filter_le p (xs.take i)
          have h3 : (xs.take i).length ≤ i := List.length_take_le _ _
          have h4 : sizeLine = 16777216 := sizeLine_eq
          omega
        · rw [etake, List.filter_append, List.map_append]
          have : ([xs[i]].filter p).map f = [f xs[i]] := by simp [hp]
          rw [this]
          exact (((at'.mono g2.g).mono g3.g).mono g4.g).append (.cons a4 .nil)
      · rw [if_neg hp]
        refine ⟨G3, acc, g13, (e'.trans g2.g).trans g3.g, nD3, hD3, ?_⟩
        rw [etake, List.filter_append, List.map_append]
        have : ([xs[i]].filter p).map f = [] := by simp [hp]
        rw [this, List.append_nil]
        exact (at'.mono g2.g).mono g3.g
    · have e : i = xs.length := by omega
      subst e
      refine .inl ⟨?_, hQ _ _ ⟨_, G', D, acc, rfl, g', rfl, hDH, hacc, n', ?_⟩⟩
      · have := wk.stop G' H' e' g'.e
        rw [List.length_map] at this
        exact this
      · rw [List.take_length] at at'
        exact at'
  exact ⟨tW_of (pe_lc hc hN piW ok hg (fun s H C cl fp => ⟨fun pins s' σ' H' Q I h => h s H C cl fp pins s' I⟩) (fun s H C cl fp => ⟨fun pins s' σ' H' Q I h => h s H C cl fp pins s' I⟩) hs) (rd _ fun v H' h => h),
    fun i y py spos h1 h2 h3 D hn => tWS_of (ps_setLc hc hN h1 h2 h3 piW ok hg (fun s H C cl fp => ⟨fun pins s' σ' H' Q I h => h s H C cl fp pins s' I⟩) (fun s H C cl fp => ⟨fun pins s' σ' H' Q I h => h s H C cl fp pins s' I⟩) hs) (rd _ hn)⟩
/-- two clauses -/
theorem o_lc2 {α β : Type} {xs : List α} {enc : α → PyData} {p : α → Bool} {ys : α → List β} {enc1 : β → PyData} {p1 : α → β → Bool} {f : α → β → PyData} {B B1 : Bnd} {elt tg iter tg1 iter1 : Expr} {ifs ifs1 : List Expr} {scope : Scope} (own : List (Str × Nat))
    (hc : X.calm = true) (hN : X.N.Nodup) (ok : BlkOk X.N X.env.scope scope own) (hB : ∀ i ∈ B.sl, i ∈ own.map (·.2)) (hB1 : ∀ i ∈ B1.sl, i ∈ own.map (·.2)) (hlt : B.lt c.n) (hlt1 : B1.lt c.n)
    (hi : DI X c B tg iter ρ (fun as => as = xs.map enc)) (hok : ∀ x ∈ xs, B.ok (enc x)) (hok1 : ∀ x ∈ xs, ∀ y ∈ ys x, B1.ok (enc1 y)) (hg : Blk X scope fun X' => PG X' tg (B.g X.K)) (hg1 : Blk X scope fun X' => PG X' tg1 (B1.g X.K))
    (ht : ∀ x ∈ xs, Blk X scope fun X' => DTs X' c ifs (B.put (enc x) (wip ρ (own.map (·.2)))) (p x))
    (hi1 : ∀ x ∈ xs, p x = true → Blk X scope fun X' => DI X' c B1 tg1 iter1 (B.put (enc x) (wip ρ (own.map (·.2)))) (fun as => as = (ys x).map enc1))
    (ht1 : ∀ x ∈ xs, ∀ y ∈ ys x, Blk X scope fun X' => DTs X' c ifs1 (B1.put (enc1 y) (wip (B.put (enc x) (wip ρ (own.map (·.2)))) B1.sl)) (p1 x y))
    (he : ∀ x ∈ xs, ∀ y ∈ ys x, p1 x y = true → Blk X scope fun X' => DV X' c elt (B1.put (enc1 y) (wip (B.put (enc x) (wip ρ (own.map (·.2)))) B1.sl)) (f x y))
    (hlen : ∀ i, ((xs.take i).filter p).flatMap (fun x => ((ys x).map (f x))) |>.length |> (· ≤ 100000))
    (hs : ∀ x, foldedSetIterable iter X.env x = pure x := by intro _; rfl) (hs1 : ∀ env x, foldedSetIterable iter1 env x = pure x := by intro _ _; rfl) :
    DC X c (.ListComp elt [⟨tg, iter, ifs, 0⟩, ⟨tg1, iter1, ifs1, 0⟩] scope pos) ρ (fun ds => ds = (xs.filter p).flatMap (fun x => ((ys x).filter (p1 x)).map (f x))) := fun σ H G S => by
  have rd : ∀ Qv : VK, (∀ v H', PO c G H (fun ds => ds = (xs.filter p).flatMap (fun x => ((ys x).filter (p1 x)).map (f x))) v H' → Qv v H') → tLc2 (tWI X tg iter) (B.g X.K) (fun σ H Q => Blk X scope fun X' => tWTs X' ifs σ H Q) (fun σ H Q => Blk X scope fun X' => tWI X' tg1 iter1 σ H Q) (B1.g X.K) (fun σ H Q => Blk X scope fun X' => tWTs X' ifs1 σ H Q) (fun σ H Q => Blk X scope fun X' => tW X' elt σ H Q) (own.map (·.2)) B1.sl σ H Qv := by
    intro Qv hQ
    refine tWI_mono (hi σ H G S) fun J H1 ⟨as, G1, e1, g1, wk⟩ D hD => ?_
    subst e1
    have hDH : H D = none := g1.none S.bag hD
    have hDb : c.b ≠ some D := fun q => by
      obtain ⟨_, _, _, z⟩ := (g1.bg S.bag) D q
      rw [hD] at z; cases z
    have hDG : G1 D = none := g1.e.none hD
    have short : ∀ i, (((xs.take i).filter p).flatMap (fun x => ((ys x).filter (p1 x)).map (f x))).length ≤ 100000 := fun i => by
      refine Nat.le_trans ?_ (hlen i)
      generalize (xs.take i).filter p = zs
      induction zs with
      | nil => exact Nat.le_refl _
      | cons z zs ih =>
        simp only [List.flatMap_cons, List.length_append, List.length_map]
        have := List.length_filter_le (p1 z) (ys z)
        omega
    refine ⟨fun i m H' => m = xs.length - i ∧ i ≤ xs.length ∧ ∃ G' acc, Grow c.b G H G' H' ∧ Ex G1 G' ∧ G' D = none ∧ H' D = some (.lst acc) ∧ AtAll G' acc (((xs.take i).filter p).flatMap (fun x => ((ys x).filter (p1 x)).map (f x))), ⟨xs.length, rfl, Nat.zero_le _, G1, [], grow_upd g1 hDH hDG hDb, Ex.refl _, hDG, upd_same, .nil⟩, ?_⟩
    rintro i m H' ⟨rfl, hi', G', acc, g', e', n', hacc, at'⟩
    by_cases hlt' : i < xs.length
    · have hx : xs[i]? = some xs[i] := List.getElem?_eq_getElem hlt'
      have hxe : (xs.map enc)[i]? = some (enc xs[i]) := by rw [List.getElem?_map, hx]; rfl
      have hmem : xs[i] ∈ xs := List.getElem_mem hlt'
      have etake : (xs.take (i + 1)) = xs.take i ++ [xs[i]] := by rw [List.take_add_one, hx]; rfl
      refine .inr ⟨wk.go G' H' i _ e' g'.e hxe, fun H'' => ∃ G'' acc'', Grow c.b G H G'' H'' ∧ Ex G1 G'' ∧ G'' D = none ∧ H'' D = some (.lst acc'') ∧ AtAll G'' acc'' (((xs.take (i + 1)).filter p).flatMap (fun x => ((ys x).filter (p1 x)).map (f x))),
        fun H'' q => ⟨xs.length - (i + 1), by omega, rfl, hlt', q⟩, fun x H2 hy => ?_⟩
      obtain ⟨G2, g2, a2⟩ := wk.yld G' H' i _ x H2 e' g'.e hxe hy
      have g12 := g'.trans S.bag g2
      have hD2 : H2 D = some (.lst acc) := g2.h D _ hDb hacc
      have nD2 : G2 D = none := by rw [g2.f D (by rw [hacc]; exact fun z => nomatch z)]; exact n'
      have S2 : St c G2 (wipe σ (own.map (·.2))) H2 (wip ρ (own.map (·.2))) := (S.grow g12).wip _
      have hDc : c.H0 D = none := S.gr.none S.bag0 hDH
      have no1 : NoD (wipe σ (own.map (·.2))) (wip ρ (own.map (·.2))) D := (S.noD hDH).wip _
      refine Bnd.run S2 a2 (hok _ hmem) hlt fun σ2 S3 hw hw2 => ⟨by rw [hw _ hB, wipe_wipe], fun s0 H0 C cl fp => ?_⟩
      have no2 : NoD σ2 (B.put (enc xs[i]) (wip ρ (own.map (·.2)))) D := fun i ds e q => by
        obtain ⟨z1, z2⟩ := hw2 i ds e
        rw [z2] at q
        exact no1 i ds z1 q
      refine tWTs_mono (ht _ hmem s0 H0 C cl fp σ2 H2 G2 S3) fun b H3 ⟨G3, eb, g3⟩ => ?_
      have hD3 : H3 D = some (.lst acc) := g3.h D _ hDb hD2
      have nD3 : G3 D = none := by rw [g3.f D (by rw [hD2]; exact fun z => nomatch z)]; exact nD2
      have g13 := g12.trans S.bag g3
      subst eb
      by_cases hp : p xs[i] = true
      · rw [if_pos hp]
        have esum : ((xs.take (i + 1)).filter p).flatMap (fun x => ((ys x).filter (p1 x)).map (f x)) = ((xs.take i).filter p).flatMap (fun x => ((ys x).filter (p1 x)).map (f x)) ++ (((ys xs[i]).filter (p1 xs[i])).map (f xs[i])) := by
          rw [etake, List.filter_append, List.flatMap_append]
          have : [xs[i]].filter p = [xs[i]] := by simp [hp]
          rw [this]; simp
        intro s0 H0 C cl fp
        refine tWI_mono (hi1 _ hmem hp s0 H0 C cl fp σ2 H3 G3 (S3.grow g3)) fun J1 H4 ⟨as1, G4, e4, g4, wk1⟩ => ?_
        subst e4
        have hD4 : H4 D = some (.lst acc) := g4.h D _ hDb hD3
        have nD4 : G4 D = none := by rw [g4.f D (by rw [hD3]; exact fun z => nomatch z)]; exact nD3
        have g14 := g13.trans S.bag g4
        have S4 : St c G4 σ2 H4 _ := (S3.grow g3).grow g4
        refine ⟨fun j k H' => k = (ys xs[i]).length - j ∧ j ≤ (ys xs[i]).length ∧ ∃ G5 acc5, Grow c.b G H G5 H' ∧ Ex G4 G5 ∧ G5 D = none ∧ H' D = some (.lst acc5) ∧ St c G5 σ2 H' (B.put (enc xs[i]) (wip ρ (own.map (·.2)))) ∧ AtAll G5 acc5 (((xs.take i).filter p).flatMap (fun x => ((ys x).filter (p1 x)).map (f x)) ++ ((((ys xs[i]).take j).filter (p1 xs[i])).map (f xs[i]))),
          ⟨(ys xs[i]).length, rfl, Nat.zero_le _, G4, acc, g14, Ex.refl _, nD4, hD4, S4, by simpa using (((at'.mono g2.g).mono g3.g).mono g4.g)⟩, ?_⟩
        rintro j k H5 ⟨rfl, hj', G5, acc5, g5, e5, n5, hacc5, S5, at5⟩
        by_cases hlj : j < (ys xs[i]).length
        · have hy1 : (ys xs[i])[j]? = some (ys xs[i])[j] := List.getElem?_eq_getElem hlj
          have hye : ((ys xs[i]).map enc1)[j]? = some (enc1 (ys xs[i])[j]) := by rw [List.getElem?_map, hy1]; rfl
          have hmy : (ys xs[i])[j] ∈ ys xs[i] := List.getElem_mem hlj
          have ety : ((ys xs[i]).take (j + 1)) = (ys xs[i]).take j ++ [(ys xs[i])[j]] := by rw [List.take_add_one, hy1]; rfl
          refine .inr ⟨wk1.go G5 H5 j _ e5 g5.e hye, fun H'' => ∃ G6 acc6, Grow c.b G H G6 H'' ∧ Ex G4 G6 ∧ G6 D = none ∧ H'' D = some (.lst acc6) ∧ St c G6 σ2 H'' (B.put (enc xs[i]) (wip ρ (own.map (·.2)))) ∧ AtAll G6 acc6 (((xs.take i).filter p).flatMap (fun x => ((ys x).filter (p1 x)).map (f x)) ++ ((((ys xs[i]).take (j + 1)).filter (p1 xs[i])).map (f xs[i]))),
            fun H'' q => ⟨(ys xs[i]).length - (j + 1), by omega, rfl, hlj, q⟩, fun y H6 hyy => ?_⟩
          obtain ⟨G6, g6, a6⟩ := wk1.yld G5 H5 j _ y H6 e5 g5.e hye hyy
          have hD6 : H6 D = some (.lst acc5) := g6.h D _ hDb hacc5
          have nD6 : G6 D = none := by rw [g6.f D (by rw [hacc5]; exact fun z => nomatch z)]; exact n5
          have S6 := S5.grow g6
          have g16 := g5.trans S.bag g6
          refine Bnd.run (S6.wip B1.sl) a6 (hok1 _ hmem _ hmy) hlt1 fun σ3 S7 hw1 _ => ⟨by rw [hw1 _ (fun i h => h), wipe_wipe], fun s0 H0 C cl fp => ?_⟩
          refine tWTs_mono (ht1 _ hmem _ hmy s0 H0 C cl fp σ3 H6 G6 S7) fun b H7 ⟨G7, eb, g7⟩ => ?_
          have hD7 : H7 D = some (.lst acc5) := g7.h D _ hDb hD6
          have nD7 : G7 D = none := by rw [g7.f D (by rw [hD6]; exact fun z => nomatch z)]; exact nD6
          have g17 := g16.trans S.bag g7
          have S67 := S6.grow g7
          subst eb
          by_cases hp1 : p1 xs[i] (ys xs[i])[j] = true
          · rw [if_pos hp1]
            intro s0 H0 C cl fp
            refine tW_mono (he _ hmem _ hmy hp1 s0 H0 C cl fp σ3 H7 G7 (S7.grow g7)) fun z H8 ⟨d, G8, ed, g8, a8⟩ => ?_
            subst ed
            have hD8 : H8 D = some (.lst acc5) := g8.h D _ hDb hD7
            have nD8 : G8 D = none := by rw [g8.f D (by rw [hD7]; exact fun z => nomatch z)]; exact nD7
            have g18 := g17.trans S.bag g8
            have S8 := S67.grow g8
            refine ⟨acc5, hD8, ?_, G8, acc5 ++ [z], grow_upd g18 hDH nD8 hDb, ((e5.trans g6.g).trans g7.g).trans g8.g, nD8, upd_same, ?_, ?_⟩
            · have h1 := at5.length
              have h2 := short (i + 1)
              rw [esum, List.length_append, List.length_map] at h2
              have h3 : (((ys xs[i]).take j).filter (p1 xs[i])).length ≤ ((ys xs[i]).filter (p1 xs[i])).length := ((List.take_sublist j (ys xs[i])).filter _).length_le
              rw [List.length_append, List.length_map] at h1
              have h4 : sizeLine = 16777216 := sizeLine_eq
              omega
            · exact S8.hid no2 nD8 hDc hDb
            · rw [ety, List.filter_append, List.map_append, ← List.append_assoc]
              have : ([(ys xs[i])[j]].filter (p1 xs[i])).map (f xs[i]) = [f xs[i] (ys xs[i])[j]] := by simp [hp1]
              rw [this]
              exact (((at5.mono g6.g).mono g7.g).mono g8.g).append (.cons a8 .nil)
          · rw [if_neg hp1]
            refine ⟨G7, acc5, g17, (e5.trans g6.g).trans g7.g, nD7, hD7, S67, ?_⟩
            rw [ety, List.filter_append, List.map_append]
            have : ([(ys xs[i])[j]].filter (p1 xs[i])).map (f xs[i]) = [] := by simp [hp1]
            rw [this, List.append_nil]
            exact (at5.mono g6.g).mono g7.g
        · have e : j = (ys xs[i]).length := by omega
          subst e
          refine .inl ⟨?_, G5, acc5, g5, ((e'.trans g2.g).trans g3.g).trans (g4.g.trans e5), n5, hacc5, ?_⟩
          · have := wk1.stop G5 H5 e5 g5.e
            rw [List.length_map] at this
            exact this
          · rw [List.take_length] at at5
            rw [esum]
            exact at5
      · rw [if_neg hp]
        refine ⟨G3, acc, g13, (e'.trans g2.g).trans g3.g, nD3, hD3, ?_⟩
        rw [etake, List.filter_append, List.flatMap_append]
        have : ([xs[i]].filter p) = [] := by simp [hp]
        rw [this, List.flatMap_nil, List.append_nil]
        exact (at'.mono g2.g).mono g3.g
    · have e : i = xs.length := by omega
      subst e
      refine .inl ⟨?_, hQ _ _ ⟨_, G', D, acc, rfl, g', rfl, hDH, hacc, n', ?_⟩⟩
      · have := wk.stop G' H' e' g'.e
        rw [List.length_map] at this
        exact this
      · rw [List.take_length] at at'
        exact at'
  have i1 := fun (s : Shared) (H : Hp) (C : Addr) (cl : List (Str × Addr)) (fp : List Addr) => (PI.mk (X := X.blk s H scope (compEnvC scope cl C X.env) fp) (tg := tg1) (iter := iter1) (wi := fun σ H Q => Blk X scope fun X' => tWI X' tg1 iter1 σ H Q) fun pins s' σ' H' Q I h => h s H C cl fp pins s' I)
  exact ⟨tW_of (pe_lc2 hc hN piW ok hB1 hg (fun s H C cl fp => ⟨fun pins s' σ' H' Q I h => h s H C cl fp pins s' I⟩) i1 hg1 (fun s H C cl fp => ⟨fun pins s' σ' H' Q I h => h s H C cl fp pins s' I⟩) (fun s H C cl fp => ⟨fun pins s' σ' H' Q I h => h s H C cl fp pins s' I⟩) hs hs1) (rd _ fun v H' h => h),
    fun i y py spos h1 h2 h3 D hn => tWS_of (ps_setLc2 hc hN h1 h2 h3 piW ok hB1 hg (fun s H C cl fp => ⟨fun pins s' σ' H' Q I h => h s H C cl fp pins s' I⟩) i1 hg1 (fun s H C cl fp => ⟨fun pins s' σ' H' Q I h => h s H C cl fp pins s' I⟩) (fun s H C cl fp => ⟨fun pins s' σ' H' Q I h => h s H C cl fp pins s' I⟩) hs hs1) (rd _ hn)⟩
end
end DL

/-! ## text DL4 -/
set_option Elab.async false
set_option linter.all false
set_option maxRecDepth 100000
set_option maxHeartbeats 4000000
/-! DL4: statements, loops, defs. -/
namespace DL
open PySem PySem.Spec PyProof.Rows L2
section
variable {X : Cx} {c : Ctx} {ρ : Rho} {pos : Pos} {rest : List Stmt} {P : Rho → Prop} {R : PyData → Prop}
theorem s_nil (h : P ρ) : Runs X c [] ρ P R := fun σ H G S D hn hr => tWSs_of pss_nil (hn ρ σ H G h (Ex.refl _) S)
theorem s_imp {sts : List Stmt} {P' : Rho → Prop} {R' : PyData → Prop} (h : Runs X c sts ρ P' R') (m : ∀ ρ, P' ρ → P ρ) (m2 : ∀ d, R' d → R d) : Runs X c sts ρ P R := fun σ H G S D hn hr =>
  h σ H G S D (fun ρ' σ' H' G' p e S' => hn ρ' σ' H' G' (m ρ' p) e S') fun d v H' G' r g b a => hr d v H' G' (m2 d r) g b a
/-- less is known -/
theorem s_less {sts : List Stmt} {ρ' : Rho} (h : Runs X c sts ρ' P R) (m : ∀ (i : Nat) (s : Sl), ρ'[i]? = some (some s) → ρ[i]? = some (some s)) : Runs X c sts ρ P R := fun σ H G S D hn hr => h σ H G (S.less m) D hn hr
theorem s_ret {e : Expr} (h : DE X c e ρ R) : Runs X c (.Return (some e) pos :: rest) ρ P R := fun σ H G S D hn hr => by
  refine tWSs_of (pss_cons (ps_ret peW) pss_never) ?_
  exact tW_mono (h σ H G S) fun v H' ⟨d, G', q, g, a⟩ => hr d v H' G' q (S.gr.trans S.bag0 g) (g.bg S.bag) a
theorem s_retN : R .none → Runs X c (.Return none pos :: rest) ρ P R := fun h σ H G S D hn hr =>
  tWSs_of (pss_cons ps_retN pss_never) (hr .none .non H G h S.gr S.bag .non)
/-- a statement, then the rest -/
theorem tseq {st : Stmt} {t : TS} {σ : L2.St} {H : Hp} {D : Ends} (p : PS X st t) (h : t { D with nx := tWSs X rest D } σ H) : tWSs X (st :: rest) D σ H := tWSs_of (pss_cons p pssW) h
/-- the rest runs on from a later store -/
theorem Runs.go {sts : List Stmt} {ρ' : Rho} (k : Runs X c sts ρ' P R) {σ' : L2.St} {H' G G' : Hp} (S : St c G' σ' H' ρ') (e : Ex G G') {D : Ends} (hn : ∀ ρ' σ' H' G', P ρ' → Ex G G' → St c G' σ' H' ρ' → D.nx σ' H')
    (hr : ∀ d v H' G', R d → Grow c.b c.G0 c.H0 G' H' → BagAt H' c.b → At G' v d → D.rt v H') : tWSs X sts D σ' H' := k σ' H' G' S D (fun ρ'' σ'' H'' G'' p e' S'' => hn ρ'' σ'' H'' G'' p (e.trans e') S'') hr
/-- x = e -/
theorem s_set (i : Nat) {x : Str} {e : Expr} {px : Pos} {Q : PyData → Prop} (h : DE X c e ρ Q) (k : ∀ d, Q d → Runs X c rest (ρ.set i (some (.dat d))) P R) (hN : X.N.Nodup) (hlt : i < c.n := by exact Nat.le_of_ble_eq_true rfl) (hi : X.N[i]? = some x := by rfl) (hx : Loc X.env.scope x := by first | exact Or.inl rfl | exact Or.inr rfl)
    (hs : swapsWith e (some (.Name x px)) pos.line X.env = pure false := by rfl) (hf : X.fn x = true ∨ X.env.scope.names.lookup x = some .local := by first | exact .inl rfl | exact .inr rfl | assumption) : Runs X c (.Assign [.Name x px] e pos :: rest) ρ P R := fun σ H G S D hn hr =>
  tseq (ps_set hN hi hx peW hs hf) (tW_mono (h σ H G S) fun v H' ⟨d, G', q, g, a⟩ => (k d q).go ((S.grow g).putD a hlt) g.g hn hr)
theorem s_setV (i : Nat) {x : Str} {e : Expr} {px : Pos} {d : PyData} (h : DV X c e ρ d) (k : Runs X c rest (ρ.set i (some (.dat d))) P R) (hN : X.N.Nodup) (hlt : i < c.n := by exact Nat.le_of_ble_eq_true rfl) (hi : X.N[i]? = some x := by rfl) (hx : Loc X.env.scope x := by first | exact Or.inl rfl | exact Or.inr rfl)
    (hs : swapsWith e (some (.Name x px)) pos.line X.env = pure false := by rfl) (hf : X.fn x = true ∨ X.env.scope.names.lookup x = some .local := by first | exact .inl rfl | exact .inr rfl | assumption) : Runs X c (.Assign [.Name x px] e pos :: rest) ρ P R :=
  s_set i h (fun d' q => by rw [q]; exact k) hN hlt hi hx hs hf
theorem St.putO {G H G' H' : Hp} {σ : L2.St} (S : St c G σ H ρ) (g : Grow c.b G H G' H') {i : Nat} {ds : List PyData} {p : Addr} {vs : List V} (n : H p = none) (h' : H' p = some (.lst vs)) (gn : G' p = none) (a : AtAll G' vs ds) (hlt : i < c.n) : St c G' (σ.set i (some (.ref p))) H' (ρ.set i (some (.own ds))) := by
  refine (S.grow g).put (s := .own ds) ⟨p, vs, rfl, h', gn, S.gr.none S.bag0 n, fun q => ?_, a⟩ hlt fun ds' p' e1 e2 j es hj h1 h2 => ?_
  · obtain ⟨_, _, _, z⟩ := S.bag p q
    rw [n] at z; cases z
  · cases e2
    exact S.noD n j es h1 h2
/-- x = e, e a new list, own from now on -/
theorem s_own (i : Nat) {x : Str} {e : Expr} {px : Pos} {Q : List PyData → Prop} (h : DO X c e ρ Q) (k : ∀ ds, Q ds → Runs X c rest (ρ.set i (some (.own ds))) P R) (hN : X.N.Nodup) (hlt : i < c.n := by exact Nat.le_of_ble_eq_true rfl) (hi : X.N[i]? = some x := by rfl) (hx : Loc X.env.scope x := by first | exact Or.inl rfl | exact Or.inr rfl)
    (hs : swapsWith e (some (.Name x px)) pos.line X.env = pure false := by rfl) (hf : X.fn x = true ∨ X.env.scope.names.lookup x = some .local := by first | exact .inl rfl | exact .inr rfl | assumption) : Runs X c (.Assign [.Name x px] e pos :: rest) ρ P R := fun σ H G S D hn hr =>
  tseq (ps_set hN hi hx peW hs hf) (tW_mono (h σ H G S) fun v H' ⟨ds, G', p, vs, q, g, e, n, h', gn, a⟩ => by
    subst e
    exact (k ds q).go (S.putO g n h' gn a hlt) g.g hn hr)
/-- x = [.. for ..], a datum from now on -/
theorem s_setLc (i : Nat) {x : Str} {e : Expr} {px : Pos} {es : List PyData} (h : DC X c e ρ (fun ds => ds = es)) (k : Runs X c rest (ρ.set i (some (.dat (.list es)))) P R) (hlt : i < c.n := by exact Nat.le_of_ble_eq_true rfl) (hi : X.N[i]? = some x := by rfl) (hx : X.env.scope.names.lookup x = some .local := by rfl)
    (hs : swapsWith e (some (.Name x px)) pos.line X.env = pure true := by exact sw_true rfl rfl rfl (by decide +kernel)) : Runs X c (.Assign [.Name x px] e pos :: rest) ρ P R := fun σ H G S D hn hr =>
  tseq psW ((h σ H G S).2 i x px pos hi hx hs _ fun v H' ⟨ds, G', p, vs, q, g, e, n, h', gn, a⟩ => by
    subst e q
    have e1 : Ex G' (upd G' p (.lst vs)) := Ex.new gn
    have g2 : Grow c.b G H (upd G' p (.lst vs)) H' := ⟨g.g.trans e1, fun a o z => by
      by_cases y : a = p
      · subst y; rw [upd_same] at z; cases z; exact h'
      · rw [upd_ne y] at z; exact g.e a o z, fun a n' => by
      rw [upd_ne (fun y => n' (by rw [y]; exact n))]
      exact g.f a n', g.h, g.bg⟩
    exact k.go ((S.grow g2).putD (At.lst upd_same (a.mono e1)) hlt) g2.g hn hr)
/-- x = [.. for ..], own from now on -/
theorem s_ownLc (i : Nat) {x : Str} {e : Expr} {px : Pos} {es : List PyData} (h : DC X c e ρ (fun ds => ds = es)) (k : Runs X c rest (ρ.set i (some (.own es))) P R) (hlt : i < c.n := by exact Nat.le_of_ble_eq_true rfl) (hi : X.N[i]? = some x := by rfl) (hx : X.env.scope.names.lookup x = some .local := by rfl)
    (hs : swapsWith e (some (.Name x px)) pos.line X.env = pure true := by exact sw_true rfl rfl rfl (by decide +kernel)) : Runs X c (.Assign [.Name x px] e pos :: rest) ρ P R := fun σ H G S D hn hr =>
  tseq psW ((h σ H G S).2 i x px pos hi hx hs _ fun v H' ⟨ds, G', p, vs, q, g, e, n, h', gn, a⟩ => by
    subst e q
    exact k.go (S.putO g n h' gn a hlt) g.g hn hr)
/-- an own list is known from now on -/
theorem s_freeze (i : Nat) {sts : List Stmt} {ds : List PyData} (hρ : ρ[i]? = some (some (.own ds))) (k : Runs X c sts (ρ.set i (some (.dat (.list ds)))) P R) : Runs X c sts ρ P R := fun σ H G S D hn hr => by
  obtain ⟨G', e, S'⟩ := S.freeze hρ
  exact k.go S' e hn hr
/-- if -/
theorem s_if {t : Expr} {a b : List Stmt} {Q : Bool → Prop} {P1 : Rho → Prop} (ht : DT X c t ρ Q) (ha : Q true → Runs X c a ρ P1 R) (hb : Q false → Runs X c b ρ P1 R) (k : ∀ ρ', P1 ρ' → Runs X c rest ρ' P R) : Runs X c (.If t a b pos :: rest) ρ P R := fun σ H G S D hn hr =>
  tseq (ps_if ptW pssW pssW) (tWT_mono (ht σ H G S) fun q H' ⟨G', qd, g⟩ => by
    have go : ∀ sts, Runs X c sts ρ P1 R → tWSs X sts { D with nx := tWSs X rest D } σ H' := fun sts h =>
      h σ H' G' (S.grow g) _ (fun ρ' σ' H'' G'' p e S' => (k ρ' p).go S' (g.g.trans e) hn hr) hr
    cases q with
    | true => exact go a (ha qd)
    | false => exact go b (hb qd))
/-- if with a known answer -/
theorem s_ifT {t : Expr} {a b : List Stmt} {P1 : Rho → Prop} (ht : DT X c t ρ (fun q => q = true)) (ha : Runs X c a ρ P1 R) (k : ∀ ρ', P1 ρ' → Runs X c rest ρ' P R) : Runs X c (.If t a b pos :: rest) ρ P R := s_if ht (fun _ => ha) (fun q => nomatch q) k
theorem s_ifF {t : Expr} {a : List Stmt} (ht : DT X c t ρ (fun q => q = false)) (k : Runs X c rest ρ P R) : Runs X c (.If t a [] pos :: rest) ρ P R := s_if (P1 := fun ρ' => ρ' = ρ) ht (fun q => nomatch q) (fun _ => s_nil rfl) (fun ρ' q => by rw [q]; exact k)
/-- if t: return .. -/
theorem s_ifR {t : Expr} {a : List Stmt} {Q : Bool → Prop} (ht : DT X c t ρ Q) (ha : Q true → Runs X c a ρ (fun _ => False) R) (k : Q false → Runs X c rest ρ P R) : Runs X c (.If t a [] pos :: rest) ρ P R :=
  s_if (P1 := fun ρ' => ρ' = ρ ∧ Q false) ht (fun q => s_imp (ha q) (fun _ z => z.elim) (fun _ z => z)) (fun q => s_nil ⟨rfl, q⟩) (fun ρ' q => by rw [q.1]; exact k q.2)
/-- for -/
theorem s_for {α : Type} {xs : List α} {enc : α → PyData} {B : Bnd} {tg iter : Expr} {body : List Stmt} (Iv : Nat → Rho → Prop) (hc : X.calm = true) (hi : DI X c B tg iter ρ (fun as => as = xs.map enc)) (hg : PG X tg (B.g X.K)) (hlt : B.lt c.n) (hok : ∀ x ∈ xs, B.ok (enc x))
    (hp : PassesOwn (model X.prog X.w) X.A X.env X.xe)
    (h0 : Iv 0 ρ) (hs : ∀ (i : Nat) x ρ', xs[i]? = some x → Iv i ρ' → Runs X c body (B.put (enc x) ρ') (Iv (i + 1)) R) (k : ∀ ρ', Iv xs.length ρ' → Runs X c rest ρ' P R) (hf : ∀ x, foldedSetIterable iter X.env x = pure x := by intro _; rfl) :
    Runs X c (.For tg iter body [] pos :: rest) ρ P R := fun σ H G S D hn hr => by
  refine tseq (ps_for hp hc piW hg pssW hf) (tWI_mono (hi σ H G S) fun J H1 ⟨as, G1, e1, g1, wk⟩ => ?_)
  subst e1
  refine ⟨fun i m σ' H' => m = xs.length - i ∧ i ≤ xs.length ∧ ∃ ρ' G', Iv i ρ' ∧ Ex G1 G' ∧ St c G' σ' H' ρ', ⟨xs.length, rfl, Nat.zero_le _, ρ, G1, h0, Ex.refl _, S.grow g1⟩, ?_⟩
  rintro i m σ' H' ⟨rfl, hi', ρ', G', iv, e', S'⟩
  by_cases hl : i < xs.length
  · have hx : xs[i]? = some xs[i] := List.getElem?_eq_getElem hl
    have hxe : (xs.map enc)[i]? = some (enc xs[i]) := by rw [List.getElem?_map, hx]; rfl
    refine .inr ⟨wk.go G' H' i _ e' S'.gr.e hxe, fun σ'' H'' => ∃ ρ'' G'', Iv (i + 1) ρ'' ∧ Ex G1 G'' ∧ St c G'' σ'' H'' ρ'', fun σ'' H'' q => ⟨xs.length - (i + 1), by omega, rfl, hl, q⟩, fun x H2 hy => ?_⟩
    obtain ⟨G2, g2, a2⟩ := wk.yld G' H' i _ x H2 e' S'.gr.e hxe hy
    refine Bnd.run (S'.grow g2) a2 (hok _ (List.getElem_mem hl)) hlt fun σ2 S3 _ _ => ?_
    exact hs i _ ρ' hx iv σ2 H2 G2 S3 _ (fun ρ3 σ3 H3 G3 p e S4 => ⟨ρ3, G3, p, (e'.trans g2.g).trans e, S4⟩) hr
  · have e : i = xs.length := by omega
    subst e
    refine .inl ⟨?_, ?_⟩
    · have := wk.stop G' H' e' S'.gr.e
      rw [List.length_map] at this
      exact this
    · exact (k ρ' iv).go S' (g1.g.trans e') hn hr
/-- xs.append(e), xs own -/
theorem s_append (i : Nat) {x : Str} {e : Expr} {px apos cpos : Pos} {ds : List PyData} {Q : PyData → Prop} (hρ : ρ[i]? = some (some (.own ds))) (h : DE X c e ρ Q) (hl : ds.length ≤ 1000000) (k : ∀ d, Q d → Runs X c rest (ρ.set i (some (.own (ds ++ [d])))) P R)
    (hN : X.N[i]? = some x := by rfl) (hv : Vis X.env.scope x := by first | exact Or.inl rfl | exact Or.inr (Or.inl rfl) | exact Or.inr (Or.inr rfl))
    (hd : (x == ("__debug__" : Str)) = false := by decide) (hcd : (x == ("__classdict__" : Str)) = false := by decide)
    (hbase : attributeBase (.Name x px) "append" X.env (eval (.Name x px) X.env) = eval (.Name x px) X.env := by rfl)
    (hfew : ((backTo cpos (starEach (e :: []) X.env)).all (fun x => !x.1) && (backToKw cpos (keywordEach [] X.env)).all (fun x => x.1.isSome)
      && decide ((e :: []).length + ([] : List Keyword).length + (if ([] : List Keyword).isEmpty then 0 else 1) < 30)) = true := by rfl)
    (hline : (apos.endLine == cpos.line) = true := by rfl) (hs : starEach (e :: []) X.env = (false, eval e X.env) :: starEach [] X.env := by rfl) (hplain : (backTo cpos (starEach [] X.env)).any (·.1) = false := by rfl)
    (hsw : swapsWith (.Call (.Attribute (.Name x px) "append" apos) [e] [] cpos) none pos.line X.env = pure false := by rfl) : Runs X c (.Expr (.Call (.Attribute (.Name x px) "append" apos) [e] [] cpos) pos :: rest) ρ P R := fun σ H G S D hn hr => by
  refine tseq (ps_expr (pe_bm PySem.F.plainAttrs_list PySem.F.slot_list_append PySem.F.type_list_append mt_append (pe_var hN hv hd hcd) (pa_cons peW pa_nil hs) hbase hfew hline hs hplain) hsw) ?_
  obtain ⟨v, h1, p, vs, rfl, h2, h3, h4, h5, h6⟩ := S.sl i _ hρ
  refine ⟨_, h1, .inl ⟨rfl, vs, SqL.of h2⟩, tW_mono (h σ H G S) fun y H1 ⟨d, G1, q, g, a⟩ => ⟨p, vs, y, rfl, rfl, g.h p _ h5 h2, ?_, ?_⟩⟩
  · have := h6.length
    have h4 : sizeLine = 16777216 := sizeLine_eq
    omega
  · exact (k d q).go ((S.grow g).mut hρ h1 ((h6.mono g.g).append (.cons a .nil))) g.g hn hr
/-- xs[e] = v, xs own -/
theorem s_setItem (i : Nat) {x : Str} {e ev : Expr} {px ps : Pos} {ds : List PyData} {Q Qv : PyData → Prop} (hρ : ρ[i]? = some (some (.own ds))) (hv' : DE X c ev ρ Qv) (h : DE X c e ρ Q) (hb : ∀ d, Q d → ∃ j : Nat, d = .int (j : Int) ∧ j < ds.length)
    (k : ∀ d (j : Nat), Qv d → Q (.int (j : Int)) → j < ds.length → Runs X c rest (ρ.set i (some (.own (ds.set j d)))) P R)
    (hN : X.N[i]? = some x := by rfl) (hv : Vis X.env.scope x := by first | exact Or.inl rfl | exact Or.inr (Or.inl rfl) | exact Or.inr (Or.inr rfl))
    (hd : (x == ("__debug__" : Str)) = false := by decide) (hcd : (x == ("__classdict__" : Str)) = false := by decide)
    (hasg : ∀ v, assign (.Subscript (.Name x px) e ps) X.env v = (do
      let ov ← holding [v] (eval (.Name x px) X.env)
      let iv ← holding [v, ov] (eval e X.env)
      standAt ps
      holding [v, ov, iv] (setItem ov iv v)
      release [v, ov, iv] []) := by intro _; rfl)
    (hs : swapsWithSole [.Subscript (.Name x px) e ps] ev pos.line X.env = pure false := by rfl) (hw : swappedStores [.Subscript (.Name x px) e ps] ev X.env = pure none := by rfl) : Runs X c (.Assign [.Subscript (.Name x px) e ps] ev pos :: rest) ρ P R := fun σ H G S D hn hr => by
  refine tseq (ps_asg peW (pg_sub (pe_var hN hv hd hcd) peW set_list hasg) hs hw) ?_
  refine tW_mono (hv' σ H G S) fun y H1 ⟨dv, G1, qv, g1, a1⟩ => ?_
  have S1 := S.grow g1
  obtain ⟨v, h1, p, vs, rfl, h2, h3, h4, h5, h6⟩ := S1.sl i _ hρ
  refine ⟨_, h1, tW_mono (h σ H1 G1 S1) fun z H2 ⟨d, G2, q, g2, a2⟩ => ?_⟩
  obtain ⟨j, rfl, hj⟩ := hb d q
  cases a2
  have hlen := h6.length
  refine ⟨p, vs, (j : Int), j, rfl, rfl, g2.h p _ h5 h2, ?_, ?_⟩
  · unfold ixN
    rw [if_pos (by omega), if_pos (by omega)]
    simp
  · exact (k dv j qv q hj).go ((S1.grow g2).mut hρ h1 ((h6.mono g2.g).set (a1.mono g2.g) j)) (g1.g.trans g2.g) hn hr
/-- a tuple is unpacked into names -/
theorem s_unp (i j : Nat) {e tg : Expr} {Q : PyData → PyData → Prop} (h : DE X c e ρ (fun d => ∃ a b, d = .tuple [a, b] ∧ Q a b)) (hg : PG X tg (Bnd.g X.K (.two i j))) (hlt : i < c.n ∧ j < c.n) (k : ∀ a b, Q a b → Runs X c rest ((ρ.set i (some (.dat a))).set j (some (.dat b))) P R)
    (hs : swapsWithSole [tg] e pos.line X.env = pure false := by rfl) (hw : swappedStores [tg] e X.env = pure none := by rfl) (h1 : (assignEach [tg] X.env).map (·.2) = [assign tg X.env] := by rfl) : Runs X c (.Assign [tg] e pos :: rest) ρ P R := fun σ H G S D hn hr =>
  tseq (ps_asg peW hg hs hw h1) (tW_mono (h σ H G S) fun v H' ⟨d, G', ⟨a, b, ed, q⟩, g, at1⟩ => by
    subst ed
    exact Bnd.run (B := .two i j) (S.grow g) (.base at1) ⟨a, b, rfl⟩ hlt fun σ2 S3 _ _ => (k a b q).go S3 g.g hn hr)
/-- a, b = [..]: a list is unpacked -/
theorem s_unl (i j : Nat) {x y : Str} {px py pt : Pos} {kt : Nat} {e : Expr} {Q : PyData → PyData → Prop} (h : DO X c e ρ (fun ds => ∃ a b, ds = [a, b] ∧ Q a b)) (hlt : i < c.n ∧ j < c.n) (k : ∀ a b, Q a b → Runs X c rest ((ρ.set i (some (.dat a))).set j (some (.dat b))) P R)
    (hc : X.calm = true) (hN : X.N.Nodup) (hi : X.N[i]? = some x := by rfl) (hj : X.N[j]? = some y := by rfl) (hx : Loc X.env.scope x := by first | exact Or.inl rfl | exact Or.inr rfl) (hy : Loc X.env.scope y := by first | exact Or.inl rfl | exact Or.inr rfl)
    (hf : X.fn x = true ∨ X.env.scope.names.lookup x = some .local := by first | exact .inl rfl | exact .inr rfl | assumption) (hf' : X.fn y = true ∨ X.env.scope.names.lookup y = some .local := by first | exact .inl rfl | exact .inr rfl | assumption)
    (hn : (assignEach [.Name x px, .Name y py] X.env).length = 2 := by rfl) (hst : (assignEach [.Name x px, .Name y py] X.env).findIdx? (·.1) = none := by rfl)
    (hs : swapsWithSole [.Tuple [.Name x px, .Name y py] kt pt] e pos.line X.env = pure false := by rfl) (hw : swappedStores [.Tuple [.Name x px, .Name y py] kt pt] e X.env = pure none := by rfl) : Runs X c (.Assign [.Tuple [.Name x px, .Name y py] kt pt] e pos :: rest) ρ P R := fun σ H G S D hnn hr =>
  tseq (ps_asg peW (pg_unl hc (pgs_cons (pg_name hN hi hx hf) (pgs_cons (pg_name hN hj hy hf') pgs_nil)) hn hst) hs hw) (tW_mono (h.de (Q' := fun d => ∃ a b, d = .list [a, b] ∧ Q a b) (fun ds ⟨a, b, e, q⟩ => ⟨a, b, by rw [e], q⟩) σ H G S) fun v H' ⟨d, G', ⟨a, b, ed, q⟩, g, at1⟩ => by
    subst ed
    obtain ⟨p, xs, rfl, h1, h2, h3⟩ := At.sqL (K := X.K) g.e at1
    cases h3 with
    | cons a1 t =>
      cases t with
      | cons a2 t =>
        cases t
        refine ⟨p, _, rfl, h2, rfl, _, _, rfl, _, _, rfl, rfl, ?_⟩
        exact (k a b q).go (((S.grow g).putD a1 hlt.1).putD a2 hlt.2) g.g hnn hr)
/-- values of any kind -/
inductive Vk where
  | dat (Q : PyData → Prop) | own (Q : List PyData → Prop)
def Vk.J (X : Cx) (c : Ctx) (e : Expr) (ρ : Rho) : Vk → Prop
  | .dat Q => DE X c e ρ Q
  | .own Q => DO X c e ρ Q
def Vk.Ok : Vk → Sl → Prop
  | .dat Q, s => ∃ d, s = .dat d ∧ Q d
  | .own Q, s => ∃ ds, s = .own ds ∧ Q ds
/-- a, b = e1, e2 (plain locals) -/
theorem s_par (i j : Nat) {x y : Str} {a b : Expr} {px py pt pt2 : Pos} {kt k2 : Nat} (ka kb : Vk) (ha : ka.J X c a ρ) (hb : kb.J X c b ρ) (hij : i ≠ j) (hlt : i < c.n ∧ j < c.n) (k : ∀ s t, ka.Ok s → kb.Ok t → Runs X c rest ((ρ.set i (some s)).set j (some t)) P R)
    (hc : X.calm = true) (hN : X.N.Nodup) (hi : X.N[i]? = some x := by rfl) (hj : X.N[j]? = some y := by rfl)
    (hx : X.env.scope.names.lookup x = some .local := by rfl) (hy : X.env.scope.names.lookup y = some .local := by rfl)
    (hst : starEach [a, b] X.env = (false, eval a X.env) :: starEach [b] X.env := by rfl) (hst2 : starEach [b] X.env = (false, eval b X.env) :: starEach [] X.env := by rfl)
    (hw : swappedStores [.Tuple [.Name x px, .Name y py] kt pt] (.Tuple [a, b] k2 pt2) X.env = pure (some [x, y]) := by rfl)
    (hs : swapsWithSole [.Tuple [.Name x px, .Name y py] kt pt] (.Tuple [a, b] k2 pt2) pos.line X.env = pure false := by rfl) :
    Runs X c (.Assign [.Tuple [.Name x px, .Name y py] kt pt] (.Tuple [a, b] k2 pt2) pos :: rest) ρ P R := fun σ H G S D hn hr => by
  refine tseq (ps_par hc hN hi hj hij hx hy (pa_cons peW (pa_cons peW pa_nil hst2) hst) hw hs) ?_
  have one : ∀ {e : Expr} {kv : Vk} {σ : L2.St} {H G : Hp} {ρ : Rho}, kv.J X c e ρ → St c G σ H ρ → tW X e σ H fun v H' => ∃ s G', kv.Ok s ∧ Grow c.b G H G' H' ∧ SlAt c G' H' s v ∧ ∀ ds p, s = .own ds → v = .ref p → H p = none := by
    intro e kv σ H G ρ h S
    cases kv with
    | dat Q => exact tW_mono (h σ H G S) fun v H' ⟨d, G', q, g, a⟩ => ⟨.dat d, G', ⟨d, rfl, q⟩, g, a, fun _ _ e => nomatch e⟩
    | own Q =>
      refine tW_mono (h σ H G S) fun v H' ⟨ds, G', p, vs, q, g, e, n, h', gn, a⟩ => ?_
      · subst e
        refine ⟨.own ds, G', ⟨ds, rfl, q⟩, g, ⟨p, vs, rfl, h', gn, S.gr.none S.bag0 n, fun z => ?_, a⟩, fun ds' p' e1 e2 => by cases e2; exact n⟩
        obtain ⟨_, _, _, y⟩ := S.bag p z
        rw [n] at y; cases y
  refine tW_mono (one ha S) fun v H1 ⟨s, G1, oks, g1, a1, f1⟩ => tW_mono (one hb (S.grow g1)) fun w H2 ⟨t, G2, okt, g2, a2, f2⟩ => ⟨v, w, rfl, ?_⟩
  have S1 : St c G1 (σ.set i (some v)) H1 (ρ.set i (some s)) := (S.grow g1).put a1 hlt.1 fun ds p e1 e2 m es hm h1 h2 => S.noD (f1 ds p e1 e2) m es h1 h2
  refine (k s t oks okt).go ((S1.grow g2).put a2 hlt.2 fun ds p e1 e2 m es hm h1 h2 => S1.noD (f2 ds p e1 e2) m es h1 h2) (g1.g.trans g2.g) hn hr
theorem s_par3 (i j l : Nat) {x y z : Str} {a b d : Expr} {px py pz pt pt2 : Pos} {kt k2 : Nat} (ka kb kd : Vk) (ha : ka.J X c a ρ) (hb : kb.J X c b ρ) (hd : kd.J X c d ρ) (hij : i ≠ j) (hil : i ≠ l) (hjl : j ≠ l) (hlt : i < c.n ∧ j < c.n ∧ l < c.n)
    (k : ∀ s t u, ka.Ok s → kb.Ok t → kd.Ok u → Runs X c rest (((ρ.set i (some s)).set j (some t)).set l (some u)) P R)
    (hc : X.calm = true) (hN : X.N.Nodup) (hi : X.N[i]? = some x := by rfl) (hj : X.N[j]? = some y := by rfl) (hl : X.N[l]? = some z := by rfl)
    (hx : X.env.scope.names.lookup x = some .local := by rfl) (hy : X.env.scope.names.lookup y = some .local := by rfl) (hz : X.env.scope.names.lookup z = some .local := by rfl)
    (hst : starEach [a, b, d] X.env = (false, eval a X.env) :: starEach [b, d] X.env := by rfl) (hst2 : starEach [b, d] X.env = (false, eval b X.env) :: starEach [d] X.env := by rfl) (hst3 : starEach [d] X.env = (false, eval d X.env) :: starEach [] X.env := by rfl)
    (hw : swappedStores [.Tuple [.Name x px, .Name y py, .Name z pz] kt pt] (.Tuple [a, b, d] k2 pt2) X.env = pure (some [x, y, z]) := by rfl)
    (hs : swapsWithSole [.Tuple [.Name x px, .Name y py, .Name z pz] kt pt] (.Tuple [a, b, d] k2 pt2) pos.line X.env = pure false := by rfl) :
    Runs X c (.Assign [.Tuple [.Name x px, .Name y py, .Name z pz] kt pt] (.Tuple [a, b, d] k2 pt2) pos :: rest) ρ P R := fun σ H G S D hn hr => by
  refine tseq (ps_par3 hc hN hi hj hl hij hil hjl hx hy hz (pa_cons peW (pa_cons peW (pa_cons peW pa_nil hst3) hst2) hst) hw hs) ?_
  have one : ∀ {e : Expr} {kv : Vk} {σ : L2.St} {H G : Hp} {ρ : Rho}, kv.J X c e ρ → St c G σ H ρ → tW X e σ H fun v H' => ∃ s G', kv.Ok s ∧ Grow c.b G H G' H' ∧ SlAt c G' H' s v ∧ ∀ ds p, s = .own ds → v = .ref p → H p = none := by
    intro e kv σ H G ρ h S
    cases kv with
    | dat Q => exact tW_mono (h σ H G S) fun v H' ⟨d, G', q, g, a⟩ => ⟨.dat d, G', ⟨d, rfl, q⟩, g, a, fun _ _ e => nomatch e⟩
    | own Q =>
      refine tW_mono (h σ H G S) fun v H' ⟨ds, G', p, vs, q, g, e, n, h', gn, a⟩ => ?_
      · subst e
        refine ⟨.own ds, G', ⟨ds, rfl, q⟩, g, ⟨p, vs, rfl, h', gn, S.gr.none S.bag0 n, fun z => ?_, a⟩, fun ds' p' e1 e2 => by cases e2; exact n⟩
        obtain ⟨_, _, _, y⟩ := S.bag p z
        rw [n] at y; cases y
  refine tW_mono (one ha S) fun v H1 ⟨s, G1, oks, g1, a1, f1⟩ => tW_mono (one hb (S.grow g1)) fun w H2 ⟨t, G2, okt, g2, a2, f2⟩ => tW_mono (one hd ((S.grow g1).grow g2)) fun w' H3 ⟨u, G3, oku, g3, a3, f3⟩ => ⟨v, w, w', rfl, ?_⟩
  have S1 : St c G1 (σ.set i (some v)) H1 (ρ.set i (some s)) := (S.grow g1).put a1 hlt.1 fun ds p e1 e2 m es hm h1 h2 => S.noD (f1 ds p e1 e2) m es h1 h2
  have S2 : St c G2 _ H2 _ := (S1.grow g2).put (i := j) (s := t) (v := w) a2 hlt.2.1 fun ds p e1 e2 m es hm h1 h2 => S1.noD (f2 ds p e1 e2) m es h1 h2
  refine (k s t u oks okt oku).go ((S2.grow g3).put a3 hlt.2.2 fun ds p e1 e2 m es hm h1 h2 => S2.noD (f3 ds p e1 e2) m es h1 h2) ((g1.g.trans g2.g).trans g3.g) hn hr
end

/-! ### defs -/
def rho0 (N : List Str) (ds : List PyData) : Rho := ds.map (fun d => some (.dat d)) ++ List.replicate (N.length - ds.length) none
def rhoB (N : List Str) (ds : List PyData) : Rho := some .bag :: ds.map (fun d => some (.dat d)) ++ List.replicate (N.length - (ds.length + 1)) none
/-- a def of the text behind the top -/
abbrev FunN (K : PySem.W.Frag) (x : Str) (st : Stmt) (f : Addr) (fd : FuncData) : Prop := FunD K x x (defArgs st) (defBody st) (defScope st) [] [] f fd
theorem _root_.L2.FunD.lk {K : PySem.W.Frag} {x qual : Str} {params : Arguments} {body : List Stmt} {scope : Scope} {dvs : List V} {kws : List (Str × V)} {f : Addr} {fd : FuncData} (F : FunD K x qual params body scope dvs kws f fd) : ∃ oc od osl, K.lookup f = some ⟨oc, od, .func fd, osl⟩ := by
  obtain ⟨oc, od, dV, kV, doc, pm, an, cdv, ct, osl, rfl, lk, hcd, _, _⟩ := F.ex
  exact ⟨_, _, _, lk⟩
structure DefAt (K : PySem.W.Frag) (mg : Str → Option Value) (x : Str) (st : Stmt) : Prop where
  ex : ∃ f fd, FunN K x st f fd ∧ mg x = some (.ref f)
structure Cal (P : Program) (w : World) (K : PySem.W.Frag) (mg : Str → Option Value) (base : Heap) (x : Str) (k : Nat) (ps : List Str) (sp : Sp) : Prop where
  ex : ∃ f fd, FnOk P w K mg base CX0 k f fd ps sp ∧ mg x = some (.ref f) ∧ PySem.W.keepIn K (.ref f) = true ∧ Binds K fd ps [] ∧ ∃ oc od osl, K.lookup f = some ⟨oc, od, .func fd, osl⟩
section
variable {P : Program} {w : World} {K : PySem.W.Frag} {mg : Str → Option Value} {base : Heap}
theorem start_get {N : List Str} {vs : List V} {G : Hp} {ds : List PyData} (a : AtAll G vs ds) (i : Nat) (s : Sl) (h : (rho0 N ds)[i]? = some (some s)) : ∃ v d, (L2.start N vs)[i]? = some (some v) ∧ s = .dat d ∧ At G v d := by
  have hlen := a.length
  unfold rho0 at h
  by_cases hi : i < ds.length
  · rw [List.getElem?_append_left (by simpa using hi), List.getElem?_map, List.getElem?_eq_getElem hi] at h
    cases h
    obtain ⟨v, h1, h2⟩ := a.get (List.getElem?_eq_getElem hi)
    refine ⟨v, _, ?_, rfl, h2⟩
    unfold L2.start
    rw [List.getElem?_append_left (by simp; omega), List.getElem?_map, h1]
    rfl
  · rw [List.getElem?_append_right (by simpa using hi), List.getElem?_replicate] at h
    split at h <;> cases h
theorem fn_D {x : Str} {st : Stmt} {N ps : List Str} {k : Nat} {T : List PyData → (PyData → Prop) → Prop} (Df : DefAt K mg x st) (S : FnScope N ps (defScope st)) (hl : ∀ ds R, T ds R → ds.length = ps.length)
    (hbind : ∀ (kV doc pm : Value) (an : Option Addr) (cdv ct : Value) (us : List Value), us.length = ps.length → bindArgs (PySem.W.fnOf x x (defArgs st) (defBody st) (defScope st) .none kV doc pm an cdv ct) ⟨us, []⟩ = pure (ps.zip us))
    (hb : ∀ f cdv A outer s H E G0 H0, Room k (A.deeper (envOfC x (defScope st) s.heap.objs.size f cdv)) → ∀ ds R, T ds R →
      Runs (cxOf CX0 P w K mg base N x (defScope st) f cdv A outer s H E).nox ⟨none, G0, H0, N.length⟩ (defBody st) (rho0 N ds) (fun _ => R .none) R) : Cal P w K mg base x (k + 1) ps (spD T) := by
  obtain ⟨f, fd, F, hm⟩ := Df.ex
  refine ⟨f, fd, F.ok S (fun vs H Q E h => ?_) (fun cdv A outer s H vs Q E hr h => ⟨_, pssW.nox, ?_⟩), hm, F.kp, F.bindsN hbind, F.lk⟩
  · obtain ⟨G, ds, R, _, a, t, _⟩ := h
    rw [a.length]; exact hl ds R t
  · obtain ⟨G, ds, R, e, a, t, q⟩ := h
    have hpl : ps.length ≤ N.length := by
      have := congrArg List.length S.pre
      rw [List.length_take] at this; omega
    refine hb f cdv A outer s H E G H hr ds R t (L2.start N vs) H G ⟨?_, Grow.refl e, (fun _ z => nomatch z), (fun _ z => nomatch z), (fun _ z => nomatch z), fun i s h => ?_, fun i j ds' es p ij h1 h2 => ?_⟩ _ (fun ρ' σ' H' G' p _ S' => ?_) (fun d v H' G' r g _ a' => ?_)
    · unfold L2.start
      have h1 := a.length
      have h2 := hl ds R t
      rw [List.length_append, List.length_map, List.length_replicate]
      show vs.length + (N.length - vs.length) = N.length
      omega
    · obtain ⟨v, d, h1, rfl, h2⟩ := start_get a i s h
      exact ⟨v, h1, h2⟩
    · obtain ⟨_, _, _, z, _⟩ := start_get a i _ h1
      cases z
    · exact q .non .none G' H' p S'.gr .non
    · exact q v d G' H' r g a'
theorem body_B {X : Cx} {N ps : List Str} {sc : Scope} {sts : List Stmt} {T : List PyData → (PyData → Prop) → Prop} {vs : List V} {H : Hp} {Q : VK} {E : XK} (S : FnScope N ps sc) (hl : ∀ ds R, T ds R → ds.length + 1 = ps.length) (h : spB T vs H Q E)
    (hrun : ∀ G0 H0 b ds R, T ds R → Runs X ⟨some b, G0, H0, N.length⟩ sts (rhoB N ds) (fun _ => R .none) R) : tWSs X sts { nx := fun _ H' => Q .non H', rt := Q } (L2.start N vs) H := by
  obtain ⟨b, G, ds, R, ws, rfl, hb0, hG, e, a, t, q⟩ := h
  have hpl : ps.length ≤ N.length := by
    have := congrArg List.length S.pre
    rw [List.length_take] at this; omega
  have get : ∀ (i : Nat) (s : Sl), (rhoB N ds)[i]? = some (some s) → (i = 0 ∧ s = .bag) ∨ ∃ v d, (L2.start N (V.ref b :: ws))[i]? = some (some v) ∧ s = .dat d ∧ At G v d := by
    intro i s h
    cases i with
    | zero => exact .inl ⟨rfl, by cases h; rfl⟩
    | succ i =>
      refine .inr ?_
      unfold rhoB at h
      rw [List.cons_append, List.getElem?_cons_succ] at h
      have hlen := a.length
      by_cases hi : i < ds.length
      · rw [List.getElem?_append_left (by simpa using hi), List.getElem?_map, List.getElem?_eq_getElem hi] at h
        cases h
        obtain ⟨v, h1, h2⟩ := a.get (List.getElem?_eq_getElem hi)
        refine ⟨v, _, ?_, rfl, h2⟩
        unfold L2.start
        rw [List.map_cons, List.cons_append, List.getElem?_cons_succ, List.getElem?_append_left (by simp; omega), List.getElem?_map, h1]
        rfl
      · rw [List.getElem?_append_right (by simpa using hi), List.getElem?_replicate] at h
        split at h <;> cases h
  refine hrun G H b ds R t (L2.start N (V.ref b :: ws)) H G ⟨?_, Grow.refl e, hb0, hb0, fun a z => by cases z; exact hG, fun i s h => ?_, fun i j ds' es p ij h1 h2 => ?_⟩ _ (fun ρ' σ' H' G' p _ S' => ?_) (fun d v H' G' r g _ a' => ?_)
  · unfold L2.start
    have h1 := a.length
    have h2 := hl ds R t
    rw [List.length_append, List.length_map, List.length_replicate, List.length_cons]
    show ws.length + 1 + (N.length - (ws.length + 1)) = N.length
    omega
  · rcases get i s h with ⟨rfl, rfl⟩ | ⟨v, d, h1, rfl, h2⟩
    · exact ⟨.ref b, rfl, b, rfl, rfl⟩
    · exact ⟨v, h1, h2⟩
  · rcases get i _ h1 with ⟨_, z⟩ | ⟨_, _, _, z, _⟩ <;> cases z
  · exact q .non .none G' H' p S'.gr .non
  · exact q v d G' H' r g a'
theorem fn_B {x : Str} {st : Stmt} {N ps : List Str} {k : Nat} {T : List PyData → (PyData → Prop) → Prop} (Df : DefAt K mg x st) (S : FnScope N ps (defScope st)) (hl : ∀ ds R, T ds R → ds.length + 1 = ps.length)
    (hbind : ∀ (kV doc pm : Value) (an : Option Addr) (cdv ct : Value) (us : List Value), us.length = ps.length → bindArgs (PySem.W.fnOf x x (defArgs st) (defBody st) (defScope st) .none kV doc pm an cdv ct) ⟨us, []⟩ = pure (ps.zip us))
    (hb : ∀ f cdv A outer s H E G0 H0 b, Room k (A.deeper (envOfC x (defScope st) s.heap.objs.size f cdv)) → ∀ ds R, T ds R →
      Runs (cxOf CX0 P w K mg base N x (defScope st) f cdv A outer s H E).nox ⟨some b, G0, H0, N.length⟩ (defBody st) (rhoB N ds) (fun _ => R .none) R) : Cal P w K mg base x (k + 1) ps (spB T) := by
  obtain ⟨f, fd, F, hm⟩ := Df.ex
  refine ⟨f, fd, F.ok S (fun vs H Q E h => ?_) (fun cdv A outer s H vs Q E hr h => ⟨_, pssW.nox, body_B S hl h fun G0 H0 b => hb f cdv A outer s H E G0 H0 b hr⟩), hm, F.kp, F.bindsN hbind, F.lk⟩
  obtain ⟨b, G, ds, R, ws, rfl, _, _, _, a, t, _⟩ := h
  rw [List.length_cons, a.length]; exact hl ds R t
end
end DL

/-! ## text DL5 -/
set_option Elab.async false
set_option linter.all false
set_option maxRecDepth 100000
set_option maxHeartbeats 4000000
/-! DL5: what the operations, the built-ins and the walked things do by data. -/
namespace DL
open PySem PySem.Spec PyProof.Rows L2

/-! ### shapes -/
def dn (n : Nat) : PyData := .int (n : Int)
def tn (l : List Nat) : PyData := .tuple (l.map dn)
def ln (l : List Nat) : PyData := .list (l.map dn)
def ttn (l : List (List Nat)) : PyData := .tuple (l.map tn)
def ltn (l : List (List Nat)) : PyData := .list (l.map tn)
def tttn (l : List (List (List Nat))) : PyData := .tuple (l.map ttn)

mutual
/-- data of ints, tuples and lists alone -/
def plain : PyData → Bool
  | .int _ => true
  | .tuple xs => plainAll xs
  | .list xs => plainAll xs
  | _ => false
def plainAll : List PyData → Bool
  | [] => true
  | x :: xs => plain x && plainAll xs
end
theorem plainAll_iff : ∀ {xs : List PyData}, plainAll xs = true ↔ ∀ x ∈ xs, plain x = true
  | [] => by simp [plainAll]
  | x :: xs => by simp [plainAll, plainAll_iff (xs := xs)]
mutual
theorem eqv_plain : ∀ {d e : PyData}, plain d = true → plain e = true → (PyData.eqv d e = true ↔ d = e)
  | .int i, .int j, _, _ => by simp [PyData.eqv]
  | .int _, .tuple _, _, _ => by simp [PyData.eqv]
  | .int _, .list _, _, _ => by simp [PyData.eqv]
  | .tuple _, .int _, _, _ => by simp [PyData.eqv]
  | .list _, .int _, _, _ => by simp [PyData.eqv]
  | .tuple _, .list _, _, _ => by simp [PyData.eqv]
  | .list _, .tuple _, _, _ => by simp [PyData.eqv]
  | .tuple xs, .tuple ys, h1, h2 => by
    have := eqvAll_plain (xs := xs) (ys := ys) (by simpa [plain] using h1) (by simpa [plain] using h2)
    simpa [PyData.eqv] using this
  | .list xs, .list ys, h1, h2 => by
    have := eqvAll_plain (xs := xs) (ys := ys) (by simpa [plain] using h1) (by simpa [plain] using h2)
    simpa [PyData.eqv] using this
  | .none, _, h, _ => by simp [plain] at h
  | .bool _, _, h, _ => by simp [plain] at h
  | .str _, _, h, _ => by simp [plain] at h
  | .dict _, _, h, _ => by simp [plain] at h
  | .int _, .none, _, h => by simp [plain] at h
  | .int _, .bool _, _, h => by simp [plain] at h
  | .int _, .str _, _, h => by simp [plain] at h
  | .int _, .dict _, _, h => by simp [plain] at h
  | .tuple _, .none, _, h => by simp [plain] at h
  | .tuple _, .bool _, _, h => by simp [plain] at h
  | .tuple _, .str _, _, h => by simp [plain] at h
  | .tuple _, .dict _, _, h => by simp [plain] at h
  | .list _, .none, _, h => by simp [plain] at h
  | .list _, .bool _, _, h => by simp [plain] at h
  | .list _, .str _, _, h => by simp [plain] at h
  | .list _, .dict _, _, h => by simp [plain] at h
theorem eqvAll_plain : ∀ {xs ys : List PyData}, plainAll xs = true → plainAll ys = true → (PyData.eqvAll xs ys = true ↔ xs = ys)
  | [], [], _, _ => by simp [PyData.eqvAll]
  | [], _ :: _, _, _ => by simp [PyData.eqvAll]
  | _ :: _, [], _, _ => by simp [PyData.eqvAll]
  | x :: xs, y :: ys, h1, h2 => by
    simp only [plainAll, Bool.and_eq_true] at h1 h2
    simp only [PyData.eqvAll, Bool.and_eq_true, List.cons.injEq, eqv_plain h1.1 h2.1, eqvAll_plain h1.2 h2.2]
end
mutual
theorem lay_plain : ∀ {d : PyData}, plain d = true → d.canLay0 = true
  | .int _, _ => by simp [PyData.canLay0]
  | .tuple xs, h => by simpa [PyData.canLay0] using layAll_plain (xs := xs) (by simpa [plain] using h)
  | .list xs, h => by simpa [PyData.canLay0] using layAll_plain (xs := xs) (by simpa [plain] using h)
  | .none, h => by simp [plain] at h
  | .bool _, h => by simp [plain] at h
  | .str _, h => by simp [plain] at h
  | .dict _, h => by simp [plain] at h
theorem layAll_plain : ∀ {xs : List PyData}, plainAll xs = true → PyData.canLayAll0 xs = true
  | [], _ => by simp [PyData.canLayAll0]
  | x :: xs, h => by
    simp only [plainAll, Bool.and_eq_true] at h
    simp [PyData.canLayAll0, lay_plain h.1, layAll_plain h.2]
end
/-- plain data, at most k deep -/
structure Pl (k : Nat) (d : PyData) : Prop where
  p : plain d = true
  d : d.depth ≤ k
theorem depthAll_le {k : Nat} : ∀ {xs : List PyData}, (∀ x ∈ xs, x.depth ≤ k) → PyData.depthAll xs ≤ k
  | [], _ => by simp [PyData.depthAll]
  | x :: xs, h => by
    simp only [PyData.depthAll]
    have h1 := h x List.mem_cons_self
    have h2 := depthAll_le (xs := xs) fun y hy => h y (List.mem_cons_of_mem _ hy)
    omega
theorem Pl.int (i : Int) : Pl 0 (.int i) := ⟨rfl, by simp [PyData.depth]⟩
theorem Pl.tup {k : Nat} {xs : List PyData} (h : ∀ x ∈ xs, Pl k x) : Pl (k + 1) (.tuple xs) :=
  ⟨by simpa [plain] using plainAll_iff.mpr fun x hx => (h x hx).p, by have := depthAll_le fun x hx => (h x hx).d; simp only [PyData.depth]; omega⟩
theorem Pl.lst {k : Nat} {xs : List PyData} (h : ∀ x ∈ xs, Pl k x) : Pl (k + 1) (.list xs) :=
  ⟨by simpa [plain] using plainAll_iff.mpr fun x hx => (h x hx).p, by have := depthAll_le fun x hx => (h x hx).d; simp only [PyData.depth]; omega⟩
theorem Pl.tups {α : Type} {k : Nat} {enc : α → PyData} (l : List α) (h : ∀ x, Pl k (enc x)) : Pl (k + 1) (.tuple (l.map enc)) := Pl.tup fun x hx => by
  obtain ⟨y, _, rfl⟩ := List.mem_map.mp hx; exact h y
theorem Pl.lsts {α : Type} {k : Nat} {enc : α → PyData} (l : List α) (h : ∀ x, Pl k (enc x)) : Pl (k + 1) (.list (l.map enc)) := Pl.lst fun x hx => by
  obtain ⟨y, _, rfl⟩ := List.mem_map.mp hx; exact h y
theorem pl_dn (n : Nat) : Pl 0 (dn n) := .int _
theorem pl_tn (l : List Nat) : Pl 1 (tn l) := Pl.tups l pl_dn
theorem pl_ln (l : List Nat) : Pl 1 (ln l) := Pl.lsts l pl_dn
theorem pl_ttn (l : List (List Nat)) : Pl 2 (ttn l) := Pl.tups l pl_tn
theorem pl_ltn (l : List (List Nat)) : Pl 2 (ltn l) := Pl.lsts l pl_tn
theorem pl_tttn (l : List (List (List Nat))) : Pl 3 (tttn l) := Pl.tups l pl_ttn
theorem Pl.shaped {k : Nat} {d : PyData} (h : Pl k d) (hk : k ≤ 64) : SeqAt.shaped d = true := by
  show (d.canLay0 && decide (d.depth ≤ 64)) = true
  rw [Bool.and_eq_true]
  exact ⟨lay_plain h.p, decide_eq_true (Nat.le_trans h.d hk)⟩
/-! injectivity -/
theorem dn_inj {a b : Nat} (h : dn a = dn b) : a = b := by
  have : ((a : Int)) = (b : Int) := PyData.int.inj h
  omega
theorem map_inj {α β : Type} {f : α → β} (hf : ∀ a b, f a = f b → a = b) : ∀ {l m : List α}, l.map f = m.map f → l = m
  | [], [], _ => rfl
  | [], _ :: _, h => by simp at h
  | _ :: _, [], h => by simp at h
  | a :: l, b :: m, h => by
    simp only [List.map_cons, List.cons.injEq] at h
    rw [hf a b h.1, map_inj hf h.2]
theorem tn_inj {a b : List Nat} (h : tn a = tn b) : a = b := map_inj (fun _ _ => dn_inj) (PyData.tuple.inj h)
theorem ln_inj {a b : List Nat} (h : ln a = ln b) : a = b := map_inj (fun _ _ => dn_inj) (PyData.list.inj h)
theorem ttn_inj {a b : List (List Nat)} (h : ttn a = ttn b) : a = b := map_inj (fun _ _ => tn_inj) (PyData.tuple.inj h)
theorem ltn_inj {a b : List (List Nat)} (h : ltn a = ltn b) : a = b := map_inj (fun _ _ => tn_inj) (PyData.list.inj h)
theorem tttn_inj {a b : List (List (List Nat))} (h : tttn a = tttn b) : a = b := map_inj (fun _ _ => ttn_inj) (PyData.tuple.inj h)
/-- equality of two encoded things -/
theorem eqv_enc {α : Type} [DecidableEq α] {enc : α → PyData} (hp : ∀ a, plain (enc a) = true) (hi : ∀ a b, enc a = enc b → a = b) (a b : α) : PyData.eqv (enc a) (enc b) = decide (a = b) := by
  by_cases h : a = b
  · subst h
    rw [decide_eq_true rfl]
    exact (eqv_plain (hp a) (hp a)).mpr rfl
  · rw [decide_eq_false h]
    cases q : PyData.eqv (enc a) (enc b) with
    | false => rfl
    | true => exact absurd (hi _ _ ((eqv_plain (hp a) (hp b)).mp q)) h
theorem any_enc {α : Type} [DecidableEq α] {enc : α → PyData} (hp : ∀ a, plain (enc a) = true) (hi : ∀ a b, enc a = enc b → a = b) (l : List α) (b : α) : ((l.map enc).any fun z => PyData.eqv z (enc b)) = decide (b ∈ l) := by
  rw [List.any_map]
  induction l with
  | nil => simp
  | cons a l ih =>
    simp only [List.any_cons, ih, Function.comp, eqv_enc hp hi, List.mem_cons, Bool.decide_or]
    congr 1
    by_cases h : a = b
    · subst h; rfl
    · rw [decide_eq_false h, decide_eq_false (fun q => h q.symm)]

/-! ### operations -/
section
variable {K : PySem.W.Frag} {i j : Int}
theorem d_intop {f : Int → Int → Int} : OpD (rI0 fun i j => .int (f i j)) (.int i) (.int j) (fun d => d = .int (f i j)) := fun b x y G H Qv e a1 a2 p => by
  cases a1; cases a2
  exact ⟨i, j, rfl, rfl, p.same e rfl (.int _)⟩
theorem d_intopC {C : Int → Int → Prop} {f : Int → Int → Int} (h : C i j) : OpD (rI C fun i j => .int (f i j)) (.int i) (.int j) (fun d => d = .int (f i j)) := fun b x y G H Qv e a1 a2 p => by
  cases a1; cases a2
  exact ⟨i, j, rfl, rfl, h, p.same e rfl (.int _)⟩
theorem d_intcmp {f : Int → Int → Bool} : OpD (rI0 fun i j => .bl (f i j)) (.int i) (.int j) (fun d => d = .bool (f i j)) := fun b x y G H Qv e a1 a2 p => by
  cases a1; cases a2
  exact ⟨i, j, rfl, rfl, p.same e rfl (.bl _)⟩
theorem d_eqD {d1 d2 : PyData} (h1 : SeqAt.shaped d1 = true) (h2 : SeqAt.shaped d2 = true) : OpD (rEqD K) d1 d2 (fun d => d = .bool (PyData.eqv d1 d2)) := fun b x y G H Qv e a1 a2 p =>
  ⟨d1, d2, (a1.mono e).dp, (a2.mono e).dp, h1, h2, p.same e rfl (.bl _)⟩
theorem d_neD {d1 d2 : PyData} (h1 : SeqAt.shaped d1 = true) (h2 : SeqAt.shaped d2 = true) : OpD (rNeD K) d1 d2 (fun d => d = .bool (!PyData.eqv d1 d2)) := fun b x y G H Qv e a1 a2 p =>
  ⟨d1, d2, (a1.mono e).dp, (a2.mono e).dp, h1, h2, p.same e rfl (.bl _)⟩
theorem d_neS {x y : Str} : OpD rNe (.str x) (.str y) (fun d => d = .bool (!decide (x = y))) := fun b u v G H Qv e a1 a2 p => by
  cases a1; cases a2
  refine ⟨rfl, ?_⟩
  have : decide (V.str x = V.str y) = decide (x = y) := by
    by_cases h : x = y
    · subst h; rw [decide_eq_true rfl, decide_eq_true rfl]
    · rw [decide_eq_false h, decide_eq_false (fun q => h (V.str.inj q))]
  rw [this]
  exact p.same e rfl (.bl _)
theorem d_ltT {ns ms : List Int} : OpD (rLtT K) (.tuple (ns.map PyData.int)) (.tuple (ms.map PyData.int)) (fun d => d = .bool (HT.lexLt ns ms)) := fun b x y G H Qv e a1 a2 p => by
  obtain ⟨a, _, xs, rfl, _, _, h3, h4⟩ := At.sqT (K := K) e a1
  obtain ⟨a', _, ys, rfl, _, _, k3, k4⟩ := At.sqT (K := K) e a2
  rw [h4.ints] at h3
  rw [k4.ints] at k3
  exact ⟨a, a', ns, ms, rfl, rfl, h3, k3, p.same e rfl (.bl _)⟩
/-- is not None -/
theorem d_notN {d1 : PyData} : OpD (fun x y H Q => y = V.non ∧ Q (.bl (!decide (x = .non))) H) d1 .none (fun d => d = .bool (!(match d1 with | .none => true | _ => false))) := fun b x y G H Qv e a1 a2 p => by
  cases a2
  refine ⟨rfl, ?_⟩
  cases a1 with
  | non => exact p.same e rfl (.bl _)
  | bl b => exact p.same e rfl (.bl _)
  | int i => exact p.same e rfl (.bl _)
  | str x => exact p.same e rfl (.bl _)
  | lst h a => exact p.same e rfl (.bl _)
  | tup h d a => exact p.same e rfl (.bl _)
/-- x in (list or tuple), flat -/
theorem flat_of {G : Hp} {v : V} {d : PyData} (h : At G v d) (q : atomic d = true) : flatV v = true := by
  cases h with
  | non => rfl
  | bl b => rfl
  | int i => rfl
  | str x => rfl
  | lst _ _ => cases q
  | tup _ _ _ => cases q
theorem inV_ints {i : Int} : ∀ {ns : List Int}, inV (.int i) (ns.map V.int) = decide (i ∈ ns)
  | [] => rfl
  | n :: ns => by
    have ih := inV_ints (i := i) (ns := ns)
    unfold inV at ih ⊢
    rw [List.map_cons, List.any_cons, ih]
    have : eqV (.int n) (.int i) = decide (n = i) := by
      show (n == i) = decide (n = i)
      exact Bool.beq_eq_decide_eq n i
    rw [this]
    simp only [List.mem_cons, Bool.decide_or]
    congr 1
    by_cases h : n = i
    · subst h; rfl
    · rw [decide_eq_false h, decide_eq_false (fun q => h q.symm)]
theorem flat_ints (ns : List Int) : (ns.map V.int).all flatV = true := by
  rw [List.all_map]; exact List.all_eq_true.mpr fun _ _ => rfl
/-- a list or tuple of ints -/
def seqI (d : PyData) (ns : List Int) : Prop := d = .tuple (ns.map PyData.int) ∨ d = .list (ns.map PyData.int)
theorem seqI.at {d : PyData} {ns : List Int} (h : seqI d ns) {G H : Hp} (e : Ex G H) {v : V} (a : At G v d) : ∃ p, v = .ref p ∧ (SqL K H p (ns.map V.int) ∨ SqT K H p (ns.map V.int)) := by
  rcases h with rfl | rfl
  · obtain ⟨p, _, xs, rfl, _, _, h3, h4⟩ := At.sqT (K := K) e a
    rw [h4.ints] at h3
    exact ⟨p, rfl, .inr h3⟩
  · obtain ⟨p, xs, rfl, _, h3, h4⟩ := At.sqL (K := K) e a
    rw [h4.ints] at h3
    exact ⟨p, rfl, .inl h3⟩
theorem d_in {neg : Bool} {i : Int} {d : PyData} {ns : List Int} (h : seqI d ns) : OpD (rIn K neg) (.int i) d (fun r => r = .bool (if neg then !decide (i ∈ ns) else decide (i ∈ ns))) := fun b x y G H Qv e a1 a2 p => by
  cases a1
  obtain ⟨q, rfl, hq⟩ := h.at (K := K) e a2
  refine ⟨q, _, rfl, hq, rfl, flat_ints ns, ?_⟩
  rw [inV_ints]
  exact p.same e rfl (.bl _)
theorem AtAll.strs {G : Hp} : ∀ {vs : List V} {ss : List Str}, AtAll G vs (ss.map PyData.str) → vs = ss.map V.str
  | [], [], _ => rfl
  | _ :: _, n :: ns, .cons (.str _) t => by rw [List.map_cons, AtAll.strs t]
theorem inV_strs {x : Str} : ∀ {ss : List Str}, inV (.str x) (ss.map V.str) = decide (x ∈ ss)
  | [] => rfl
  | s :: ss => by
    have ih := inV_strs (x := x) (ss := ss)
    unfold inV at ih ⊢
    rw [List.map_cons, List.any_cons, ih]
    have : eqV (.str s) (.str x) = decide (s = x) := by
      show (s == x) = decide (s = x)
      exact Bool.beq_eq_decide_eq s x
    rw [this]
    simp only [List.mem_cons, Bool.decide_or]
    congr 1
    by_cases h : s = x
    · subst h; rfl
    · rw [decide_eq_false h, decide_eq_false (fun q => h q.symm)]
/-- a text not in a list of texts -/
theorem d_notInS {x : Str} {ss : List Str} : OpD (rIn K true) (.str x) (.list (ss.map PyData.str)) (fun r => r = .bool (!decide (x ∈ ss))) := fun b u v G H Qv e a1 a2 p => by
  cases a1
  obtain ⟨q, xs, rfl, _, h3, h4⟩ := At.sqL (K := K) e a2
  rw [h4.strs] at h3
  refine ⟨q, _, rfl, .inl h3, rfl, by rw [List.all_map]; exact List.all_eq_true.mpr fun _ _ => rfl, ?_⟩
  rw [inV_strs]
  exact p.same e rfl (.bl _)
/-- x in ys by data, ys a list or a tuple -/
def rInX (K : PySem.W.Frag) (neg : Bool) : R2 := fun x y H Q => ∃ d ds, Dp K H x d ∧ (Dp K H y (.list ds) ∨ Dp K H y (.tuple ds)) ∧ SeqAt.shaped d = true ∧ SeqAt.shaped (.list ds) = true ∧ Q (.bl (if neg then !ds.any fun z => PyData.eqv z d else ds.any fun z => PyData.eqv z d)) H
theorem op_inX {X : Cx} (hu : X.A.units + 65 < cLine) : OpR X (compareOp .In) (rInX X.K false) := by
  intro pins s σ H x y v u Q I rx ry h
  obtain ⟨d, ds, hd, he, sd, se, q⟩ := h
  obtain ⟨as, r1⟩ := Dp.reads I d x v hd rx
  rcases he with he | he
  · obtain ⟨bs, r2⟩ := Dp.reads I (.list ds) y u he ry
    exact SeqAt.in_list_reads r2 r1 (SeqAt.canLay_of_shaped se) (SeqAt.canLay_of_shaped sd) (room_in_shaped sd hu) ⟨.bl _, H, I, rfl, q⟩
  · obtain ⟨bs, r2⟩ := Dp.reads I (.tuple ds) y u he ry
    exact SeqAt.in_tuple_reads r2 r1 (SeqAt.canLay_of_shaped se) (SeqAt.canLay_of_shaped sd) (room_in_shaped sd hu) ⟨.bl _, H, I, rfl, q⟩
theorem op_notInX {X : Cx} (hu : X.A.units + 65 < cLine) : OpR X (compareOp .NotIn) (rInX X.K true) := by
  intro pins s σ H x y v u Q I rx ry h
  obtain ⟨d, ds, hd, he, sd, se, q⟩ := h
  obtain ⟨as, r1⟩ := Dp.reads I d x v hd rx
  rcases he with he | he
  · obtain ⟨bs, r2⟩ := Dp.reads I (.list ds) y u he ry
    exact SeqAt.notIn_list_reads r2 r1 (SeqAt.canLay_of_shaped se) (SeqAt.canLay_of_shaped sd) (room_in_shaped sd hu) ⟨.bl _, H, I, rfl, q⟩
  · obtain ⟨bs, r2⟩ := Dp.reads I (.tuple ds) y u he ry
    exact SeqAt.notIn_tuple_reads r2 r1 (SeqAt.canLay_of_shaped se) (SeqAt.canLay_of_shaped sd) (room_in_shaped sd hu) ⟨.bl _, H, I, rfl, q⟩
theorem d_inX {neg : Bool} {d1 d2 : PyData} {ds : List PyData} (h : d2 = .list ds ∨ d2 = .tuple ds) (h1 : SeqAt.shaped d1 = true) (h2 : SeqAt.shaped (.list ds) = true) : OpD (rInX K neg) d1 d2 (fun r => r = .bool (if neg then !ds.any fun z => PyData.eqv z d1 else ds.any fun z => PyData.eqv z d1)) := fun b x y G H Qv e a1 a2 p => by
  refine ⟨d1, ds, (a1.mono e).dp, ?_, h1, h2, p.same e rfl (.bl _)⟩
  rcases h with rfl | rfl
  · exact .inl (a2.mono e).dp
  · exact .inr (a2.mono e).dp
/-- xs + ys of lists -/
theorem d_cat {as bs : List PyData} (h : as.length + bs.length ≤ 1000000) : OpO rCat (.list as) (.list bs) (fun ds => ds = as ++ bs) := fun b x y G H Qv e a1 a2 p => by
  obtain ⟨q, xs, rfl, h1, _, h4⟩ := At.sqL (K := []) e a1
  obtain ⟨r, ys, rfl, k1, _, k4⟩ := At.sqL (K := []) e a2
  have l1 := h4.length
  have l2 := k4.length
  refine ⟨q, r, xs, ys, rfl, rfl, h1, k1, by rw [sizeLine_eq]; omega, fun n hn => p.lst e hn rfl (h4.append k4)⟩
/-- [x] * k -/
theorem d_rep {as : List PyData} {k : Nat} (h : as.length * k ≤ 1000000) (hk : k ≤ 1000000) : OpO rRep (.list as) (.int (k : Int)) (fun ds => ds = (List.replicate k as).flatten) := fun b x y G H Qv e a1 a2 p => by
  obtain ⟨q, xs, rfl, h1, _, h4⟩ := At.sqL (K := []) e a1
  cases a2
  have l1 := h4.length
  refine ⟨q, (k : Int), xs, rfl, rfl, h1, by omega, by omega, by rw [sizeLine_eq, l1]; simp only [Int.toNat_natCast]; omega, fun n hn => ?_⟩
  have : AtAll G (List.replicate k xs).flatten (List.replicate k as).flatten := by
    clear h hk p
    induction k with
    | zero => exact .nil
    | succ k ih => rw [List.replicate_succ, List.replicate_succ, List.flatten_cons, List.flatten_cons]; exact h4.append ih
  exact p.lst e hn rfl this
/-- an item -/
theorem d_ixT {ds : List PyData} {i : Int} {d : PyData} (h : atI ds i = some d) : OpD (rIxT K) (.tuple ds) (.int i) (fun r => r = d) := fun b x y G H Qv e a1 a2 p => by
  obtain ⟨q, _, xs, rfl, _, _, h3, h4⟩ := At.sqT (K := K) e a1
  cases a2
  unfold atI at h
  rw [← h4.length] at h
  cases hj : ixN xs.length i with
  | none => rw [hj] at h; cases h
  | some j =>
    rw [hj] at h
    obtain ⟨v, k1, k2⟩ := h4.get (i := j) h
    exact ⟨q, xs, i, v, rfl, rfl, h3, by unfold atI; rw [hj]; exact k1, p.same e rfl k2⟩
theorem d_ixL {ds : List PyData} {i : Int} {d : PyData} (h : atI ds i = some d) : OpD (rIxL K) (.list ds) (.int i) (fun r => r = d) := fun b x y G H Qv e a1 a2 p => by
  obtain ⟨q, xs, rfl, _, h3, h4⟩ := At.sqL (K := K) e a1
  cases a2
  unfold atI at h
  rw [← h4.length] at h
  cases hj : ixN xs.length i with
  | none => rw [hj] at h; cases h
  | some j =>
    rw [hj] at h
    obtain ⟨v, k1, k2⟩ := h4.get (i := j) h
    exact ⟨q, xs, i, v, rfl, rfl, h3, by unfold atI; rw [hj]; exact k1, p.same e rfl k2⟩
end
end DL

/-! ## text DL6 -/
set_option Elab.async false
set_option linter.all false
set_option maxRecDepth 100000
set_option maxHeartbeats 4000000
/-! DL6: built-ins, walks. -/
namespace DL
open PySem PySem.Spec PyProof.Rows L2

/-! ### new tuples, told with their object -/
section
variable {X : Cx}
def rCatX (K : PySem.W.Frag) : R2 := fun x y H Q => ∃ a b xs ys, x = .ref a ∧ y = .ref b ∧ SqT K H a xs ∧ SqT K H b ys ∧ xs.length + ys.length ≤ sizeLine ∧
  (xs = [] → Q (.ref b) H) ∧ (xs ≠ [] → ys = [] → Q (.ref a) H) ∧ (xs ≠ [] → ys ≠ [] → ∀ p o, H p = none → o.dict = none → Q (.ref p) (upd H p (.frz o (.tup (xs ++ ys)))))
theorem op_catX : OpR X (binaryOp .Add) (rCatX X.K) := by
  intro pins s σ H x y v u Q I rx ry h
  obtain ⟨a, b, xs, ys, rfl, rfl, ha, hb, hz, q0, q1, q2⟩ := h
  cases rx
  cases ry
  obtain ⟨its, r1, p1, _⟩ := I.tuple ha
  obtain ⟨its2, r2, p2, _⟩ := I.tuple hb
  by_cases hx : xs = []
  · subst hx
    cases r1
    exact cat_tup0 p1 p2 ⟨.ref b, H, I, rfl, q0 rfl⟩
  · refine HT.cat_tup p1 p2 (fun z => hx (r1.nil_iff.mp z)) (fun z => ⟨.ref a, H, I, rfl, q1 hx (r2.nil_iff.mp z)⟩) (fun z => ?_) (by rw [← r1.length, ← r2.length]; exact hz)
    refine ⟨.ref s.heap.objs.size, upd H s.heap.objs.size (.frz { cls := .type "tuple", data := .seq (its ++ its2).toArray } (.tup (xs ++ ys))), I.laid (t' := s.toks) (fun c ob q => Heap.get?_push_of_some _ q) (Nat.le_refl _) ?_, rfl, q2 hx (fun w => z (r2.nil_iff.mpr w)) _ _ (I.hok.fresh (Nat.le_refl _)) rfl⟩
    exact ⟨Heap.get?_push_size _ rfl, by rw [List.length_append]; exact hz, _, r1.append r2, IsTup.new _ _⟩
theorem d_catT {K : PySem.W.Frag} {as bs : List PyData} (h : as.length + bs.length ≤ 1000000) : OpD (rCatX K) (.tuple as) (.tuple bs) (fun d => d = .tuple (as ++ bs)) := fun b x y G H Qv e a1 a2 p => by
  obtain ⟨q, _, xs, rfl, _, _, h3, h4⟩ := At.sqT (K := K) e a1
  obtain ⟨r, _, ys, rfl, _, _, k3, k4⟩ := At.sqT (K := K) e a2
  have l1 := h4.length
  have l2 := k4.length
  refine ⟨q, r, xs, ys, rfl, rfl, h3, k3, by rw [sizeLine_eq]; omega, fun z => ?_, fun _ z => ?_, fun _ _ n o hn hd => p.tup e hn hd rfl (h4.append k4)⟩
  · subst z
    have : as = [] := by cases as with | nil => rfl | cons _ _ => simp at l1
    subst this
    exact p.same e rfl a2
  · subst z
    have : bs = [] := by cases bs with | nil => rfl | cons _ _ => simp at l2
    subst this
    rw [List.append_nil] at p
    exact p.same e rfl a1
/-- tuple(xs) of a list: a new one; of a tuple: itself -/
def rTupX (K : PySem.W.Frag) : List V → Hp → VK → Prop := fun xs H Q => ∃ p ys, xs = [.ref p] ∧ ((SqL K H p ys ∧ ∀ l o, H l = none → o.dict = none → Q (.ref l) (upd H l (.frz o (.tup ys)))) ∨ (SqT K H p ys ∧ Q (.ref p) H))
theorem call_tupX : CallR X (.type "tuple") (rTupX X.K) := by
  intro pins s σ H xs us Q I r h
  obtain ⟨p, ys, rfl, h⟩ := h
  obtain ⟨u, rfl, rx⟩ := vals1 r
  cases rx
  rcases h with ⟨hq, q⟩ | ⟨hq, q⟩
  · obtain ⟨its, r', pl, hz⟩ := I.list hq
    have hlen := r'.length
    refine call_tuple_list pl.isList (fun h' kp => ?_) (by simp only [List.size_toArray] <;> omega)
    have I1 : Inv X pins σ H { s with heap := h' } := I.kept (t' := s.toks) kp
    refine ⟨.ref h'.objs.size, upd H h'.objs.size (.frz { cls := .type "tuple", data := .seq its.toArray } (.tup ys)), I1.laid (t' := s.toks) (fun b o e => Heap.get?_push_of_some _ e) (Nat.le_refl _) ?_, rfl, q _ _ (I1.hok.fresh (Nat.le_refl _)) rfl⟩
    exact ⟨Heap.get?_push_size _ rfl, hz, its, r', IsTup.new _ _⟩
  · obtain ⟨its, r', pl, hz⟩ := I.tuple hq
    exact call_tuple_same pl ⟨.ref p, H, I, rfl, q⟩
theorem d_tupL {K : PySem.W.Frag} {ds : List PyData} : CallD (rTupX K) [.list ds] (fun d => d = .tuple ds) := fun b vs G H Qv e a p => by
  cases a with
  | cons a1 t =>
    cases t
    obtain ⟨q, xs, rfl, _, h3, h4⟩ := At.sqL (K := K) e a1
    exact ⟨q, xs, rfl, .inl ⟨h3, fun l o hn hd => p.tup e hn hd rfl h4⟩⟩
theorem d_tupT {K : PySem.W.Frag} {ds : List PyData} : CallD (rTupX K) [.tuple ds] (fun d => d = .tuple ds) := fun b vs G H Qv e a p => by
  cases a with
  | cons a1 t =>
    cases t
    obtain ⟨q, _, xs, rfl, _, _, h3, h4⟩ := At.sqT (K := K) e a1
    exact ⟨q, xs, rfl, .inr ⟨h3, p.same e rfl a1⟩⟩
/-- tuple(range(..)) -/
def tTupRgX (te : L2.St → Hp → (Int → Int → Hp → Prop) → Prop) : TE := fun σ H Q => te σ H fun a b H1 => RgOk a b ∧ ∀ q o, H1 q = none → o.dict = none → Q (.ref q) (upd H1 q (.frz o (.tup (rgV a b))))
theorem pe_tupRgX {e : Expr} {te : L2.St → Hp → (Int → Int → Hp → Prop) → Prop} {p pos : Pos} (hc : X.calm = true) (hg : Gl X "tuple") (hm : X.mg "tuple" = none) (he : PRg X e te) (na : starEach [e] X.env = (false, eval e X.env) :: starEach [] X.env := by rfl) : PE X (.Call (.Name "tuple" p) [e] [] pos) (tTupRgX te) := by
  refine ⟨fun pins s σ H Q I h => ?_⟩
  refine Call_ (ld_blt I hg hm boot_tuple (PyProof.Rows.callWith_type1 (args_cons (thn (he pins s σ H _ I h) fun x s1 ⟨r, a, b, t, u, v, H1, ex, hr, I1, ok, q⟩ => args_nil ?_) na) na))
  subst ex
  obtain ⟨b1, b2, b3, b4, b5⟩ := ok
  refine call_tuple_range (n := (b - a).toNat) (I1.ok.hd hc) hr (small_one b1 b2 b3 b4) (rangeSize_nat a b) b5 fun h' tk acc hk hi => ?_
  have I2 : Inv X pins σ H1 { s1 with heap := h', toks := tk } := I1.kept hk
  refine ⟨.ref h'.objs.size, upd H1 h'.objs.size (.frz { cls := .type "tuple", data := .seq acc } (.tup (rgV a b))), I2.laid (t' := tk) (fun c o e => Heap.get?_push_of_some _ e) (Nat.le_refl _) ⟨Heap.get?_push_size _ rfl, ?_, acc.toList, vals_rg hi, ?_⟩, rfl, q _ _ (I2.hok.fresh (Nat.le_refl _)) rfl⟩
  · rw [rgV_length, sizeLine_eq]; omega
  · rw [Array.toArray_toList]; exact IsTup.new _ _
end
theorem rgV_nat (G : Hp) (n : Nat) : AtAll G (rgV 0 (n : Int)) ((List.range n).map dn) := by
  have : rgV 0 (n : Int) = ((List.range n).map fun i : Nat => (i : Int)).map V.int := by
    unfold rgV
    rw [List.map_map]
    have : ((n : Int) - 0).toNat = n := by omega
    rw [this]
    apply List.map_congr_left
    intro i _
    show V.int (0 + (i : Int)) = V.int (i : Int)
    rw [Int.zero_add]
  rw [this]
  have h2 : (List.range n).map dn = ((List.range n).map fun i : Nat => (i : Int)).map PyData.int := by rw [List.map_map]; rfl
  rw [h2]
  exact AtAll.ofInts _
section
variable {X : Cx} {c : Ctx} {ρ : Rho} {pos : Pos} {e a b : Expr}
theorem e_tupRange {p p2 pos2 : Pos} {n : Nat} (hc : X.calm = true) (hm : X.mg "tuple" = none) (hm2 : X.mg "range" = none) (h : DV X c e ρ (dn n)) (hn : n ≤ 1000000) (hg : Gl X "tuple" := by rfl) (hg2 : Gl X "range" := by rfl)
    (na : starEach [e] X.env = (false, eval e X.env) :: starEach [] X.env := by rfl) (na2 : starEach [.Call (.Name "range" p2) [e] [] pos2] X.env = (false, eval (.Call (.Name "range" p2) [e] [] pos2) X.env) :: starEach [] X.env := by rfl) :
    DV X c (.Call (.Name "tuple" p) [.Call (.Name "range" p2) [e] [] pos2] [] pos) ρ (tn (List.range n)) := fun σ H G S =>
  tW_of (pe_tupRgX hc hg hm (prg_1 hg2 hm2 peW na) na2) (tW_mono (h σ H G S) fun v H1 ⟨d, G1, q, g, a⟩ => by
    subst q
    cases a
    refine ⟨(n : Int), rfl, RgOk.of_le (Int.le_refl _) (by omega) (by omega) (by omega), fun q o hq hd => ?_⟩
    exact ⟨_, _, rfl, g.trans S.bag (Grow.new g.e hq), .tup upd_same hd ((rgV_nat G1 n).mono (Ex.new (g.e.none hq)))⟩)
theorem o_listRange {p p2 pos2 : Pos} {n : Nat} (hc : X.calm = true) (hm : X.mg "list" = none) (hm2 : X.mg "range" = none) (h : DV X c e ρ (dn n)) (hn : n ≤ 1000000) (hg : Gl X "list" := by rfl) (hg2 : Gl X "range" := by rfl)
    (na : starEach [e] X.env = (false, eval e X.env) :: starEach [] X.env := by rfl) (na2 : starEach [.Call (.Name "range" p2) [e] [] pos2] X.env = (false, eval (.Call (.Name "range" p2) [e] [] pos2) X.env) :: starEach [] X.env := by rfl) :
    DO X c (.Call (.Name "list" p) [.Call (.Name "range" p2) [e] [] pos2] [] pos) ρ (fun ds => ds = (List.range n).map dn) := fun σ H G S =>
  tW_of (pe_listRg hc hg hm (prg_1 hg2 hm2 peW na) na2) (tW_mono (h σ H G S) fun v H1 ⟨d, G1, q, g, a⟩ => by
    subst q
    cases a
    refine ⟨(n : Int), rfl, RgOk.of_le (Int.le_refl _) (by omega) (by omega) (by omega), fun q hq => ?_⟩
    exact ⟨_, G1, q, _, rfl, g.trans S.bag (Grow.hid g.e hq), rfl, g.none S.bag hq, upd_same, g.e.none hq, rgV_nat G1 n⟩)
end

/-! ### calls -/
section
variable {K : PySem.W.Frag}
theorem d_len {d : PyData} {ds : List PyData} (h : d = .list ds ∨ d = .tuple ds) : CallD (fun xs H Q => ∃ p ys, xs = [.ref p] ∧ (SqL K H p ys ∨ SqT K H p ys) ∧ Q (.int ys.length) H) [d] (fun r => r = dn ds.length) := fun b vs G H Qv e a p => by
  cases a with
  | cons a1 t =>
    cases t
    rcases h with rfl | rfl
    · obtain ⟨q, xs, rfl, _, h3, h4⟩ := At.sqL (K := K) e a1
      refine ⟨q, xs, rfl, .inl h3, ?_⟩
      rw [h4.length]
      exact p.same e rfl (.int _)
    · obtain ⟨q, _, xs, rfl, _, _, h3, h4⟩ := At.sqT (K := K) e a1
      refine ⟨q, xs, rfl, .inr h3, ?_⟩
      rw [h4.length]
      exact p.same e rfl (.int _)
theorem d_listOf {d : PyData} {ds : List PyData} (h : d = .list ds ∨ d = .tuple ds) : CallO (fun xs H Q => ∃ p ys, xs = [.ref p] ∧ (SqL K H p ys ∨ SqT K H p ys) ∧ ∀ l, H l = none → Q (.ref l) (upd H l (.lst ys))) [d] (fun r => r = ds) := fun b vs G H Qv e a p => by
  cases a with
  | cons a1 t =>
    cases t
    rcases h with rfl | rfl
    · obtain ⟨q, xs, rfl, _, h3, h4⟩ := At.sqL (K := K) e a1
      exact ⟨q, xs, rfl, .inl h3, fun l hl => p.lst e hl rfl h4⟩
    · obtain ⟨q, _, xs, rfl, _, _, h3, h4⟩ := At.sqT (K := K) e a1
      exact ⟨q, xs, rfl, .inr h3, fun l hl => p.lst e hl rfl h4⟩
theorem d_all {bs : List Bool} : CallD (rAll K) [.list (bs.map PyData.bool)] (fun r => r = .bool (bs.all id)) := fun b vs G H Qv e a p => by
  cases a with
  | cons a1 t =>
    cases t
    obtain ⟨q, xs, rfl, _, h3, h4⟩ := At.sqL (K := K) e a1
    rw [h4.bls] at h3
    exact ⟨q, bs, rfl, h3, p.same e rfl (.bl _)⟩
theorem d_any {bs : List Bool} : CallD (rAny K) [.list (bs.map PyData.bool)] (fun r => r = .bool (bs.any id)) := fun b vs G H Qv e a p => by
  cases a with
  | cons a1 t =>
    cases t
    obtain ⟨q, xs, rfl, _, h3, h4⟩ := At.sqL (K := K) e a1
    rw [h4.bls] at h3
    exact ⟨q, bs, rfl, h3, p.same e rfl (.bl _)⟩
theorem d_sum {ns : List Int} : CallD (rSum K) [.list (ns.map PyData.int)] (fun r => r = .int ns.sum) := fun b vs G H Qv e a p => by
  cases a with
  | cons a1 t =>
    cases t
    obtain ⟨q, xs, rfl, _, h3, h4⟩ := At.sqL (K := K) e a1
    rw [h4.ints] at h3
    exact ⟨q, ns, rfl, h3, p.same e rfl (.int _)⟩
theorem d_abs {i : Int} : CallD (fun xs H Q => ∃ i, xs = [V.int i] ∧ Q (.int (if i < 0 then -i else i)) H) [.int i] (fun r => r = .int (if i < 0 then -i else i)) := fun b vs G H Qv e a p => by
  cases a with
  | cons a1 t =>
    cases t; cases a1
    exact ⟨i, rfl, p.same e rfl (.int _)⟩
theorem d_int1 {i : Int} : CallD (fun xs H Q => (∃ i, xs = [V.int i] ∧ Q (.int i) H) ∨ ∃ k, xs = [V.bl k] ∧ Q (.int (if k then 1 else 0)) H) [.int i] (fun r => r = .int i) := fun b vs G H Qv e a p => by
  cases a with
  | cons a1 t =>
    cases t; cases a1
    exact .inl ⟨i, rfl, p.same e rfl (.int _)⟩
theorem d_max2 {i j : Int} : CallD (fun xs H Q => ∃ i j, xs = [V.int i, V.int j] ∧ Q (.int (if j > i then j else i)) H) [.int i, .int j] (fun r => r = .int (if j > i then j else i)) := fun b vs G H Qv e a p => by
  cases a with
  | cons a1 t =>
    cases t with
    | cons a2 t =>
      cases t; cases a1; cases a2
      exact ⟨i, j, rfl, p.same e rfl (.int _)⟩
theorem d_min2 {i j : Int} : CallD (fun xs H Q => ∃ i j, xs = [V.int i, V.int j] ∧ Q (.int (if j < i then j else i)) H) [.int i, .int j] (fun r => r = .int (if j < i then j else i)) := fun b vs G H Qv e a p => by
  cases a with
  | cons a1 t =>
    cases t with
    | cons a2 t =>
      cases t; cases a1; cases a2
      exact ⟨i, j, rfl, p.same e rfl (.int _)⟩
/-- sorted list of numbers -/
def srt (l : List Nat) : List Nat := l.mergeSort (fun a b => decide (a ≤ b))
theorem srt_perm (l : List Nat) : (srt l).Perm l := List.mergeSort_perm _ _
theorem srt_pw (l : List Nat) : (srt l).Pairwise (· ≤ ·) := by
  have := List.pairwise_mergeSort (le := fun a b : Nat => decide (a ≤ b)) (fun a b c h1 h2 => by simp at *; omega) (fun a b => by simp; omega) l
  exact this.imp fun h => by simpa using h
theorem srt_of {l m : List Nat} (p : m.Perm l) (s : m.Pairwise (· ≤ ·)) : m = srt l :=
  List.Perm.eq_of_pairwise (le := (· ≤ ·)) (fun a b _ _ h1 h2 => Nat.le_antisymm h1 h2) s (srt_pw l) (p.trans (srt_perm l).symm)
theorem d_sorted {ns : List Nat} (h : ns.length < 64) : CallO (rSorted K) [ln ns] (fun r => r = (srt ns).map dn) := fun b vs G H Qv e a p => by
  cases a with
  | cons a1 t =>
    cases t
    have hI : ln ns = .list ((ns.map fun n : Nat => (n : Int)).map PyData.int) := by unfold ln; rw [List.map_map]; rfl
    rw [hI] at a1
    obtain ⟨q, xs, rfl, _, h3, h4⟩ := At.sqL (K := K) e a1
    rw [h4.ints] at h3
    refine ⟨q, _, rfl, h3, by rw [List.length_map]; exact h, fun ns' r pm pw hr => ?_⟩
    have hn : ∀ i ∈ ns', ∃ n : Nat, i = (n : Int) := fun i hi => by
      obtain ⟨n, _, e⟩ := List.mem_map.mp (pm.mem_iff.mp hi)
      exact ⟨n, e.symm⟩
    have e2 : ns' = (ns'.map Int.toNat).map fun n : Nat => (n : Int) := by
      rw [List.map_map]
      conv => lhs; rw [← List.map_id ns']
      apply List.map_congr_left
      intro i hi
      obtain ⟨n, rfl⟩ := hn i hi
      simp
    have e3 : ns'.map Int.toNat = srt ns := by
      refine srt_of ?_ ?_
      · have := pm.map Int.toNat
        rw [List.map_map] at this
        have e4 : ns.map (Int.toNat ∘ fun n : Nat => (n : Int)) = ns := by
          conv => rhs; rw [← List.map_id ns]
          apply List.map_congr_left
          intro i _
          simp
        rw [e4] at this
        exact this
      · rw [List.pairwise_map]
        refine pw.imp_of_mem fun {x y} hx hy hxy => ?_
        obtain ⟨n, rfl⟩ := hn x hx
        obtain ⟨m, rfl⟩ := hn y hy
        simp; omega
    rw [e2, e3]
    refine p.lst e hr rfl ?_
    have e5 : (srt ns).map dn = ((srt ns).map fun n : Nat => (n : Int)).map PyData.int := by rw [List.map_map]; rfl
    rw [e5]
    exact AtAll.ofInts _
end

/-! ### lists and tuples asked for a place -/
/-- the place of the first equal one -/
theorem idx_spec : ∀ {l : List Nat} {k : Nat}, k ∈ l → l[l.idxOf k]? = some k ∧ ∀ m, m < l.idxOf k → l[m]? ≠ some k
  | a :: l, k, h => by
    by_cases e : a = k
    · subst e
      rw [List.idxOf_cons_self]
      exact ⟨rfl, fun m hm => by omega⟩
    · rw [List.idxOf_cons, show (a == k) = false from beq_eq_false_iff_ne.mpr e, cond_false]
      have hk : k ∈ l := by
        rcases List.mem_cons.mp h with q | q
        · exact absurd q.symm e
        · exact q
      obtain ⟨h1, h2⟩ := idx_spec hk
      refine ⟨by simpa using h1, fun m hm => ?_⟩
      cases m with
      | zero => simpa using e
      | succ m => simpa using h2 m (by omega)
section
variable {X : Cx} {c : Ctx} {ρ : Rho}
theorem mt_tupI : MtR X "tuple.index" (fun x xs H Q => ∃ p, ∃ ys : List Int, ∃ z, ∃ j : Nat, x = V.ref p ∧ xs = [.int z] ∧ SqT X.K H p (ys.map V.int) ∧ ys[j]? = some z ∧ (∀ m, m < j → ys[m]? ≠ some z) ∧ Q (.int (j : Nat)) H) := by
  intro pins s σ H x xs v us Q I rx rxs h
  obtain ⟨p, ys, z, j, rfl, rfl, hS, hj, hno, q⟩ := h
  obtain ⟨uz, rfl, rz⟩ := vals1 rxs
  cases rx
  obtain ⟨its, r', ⟨⟨cls, dd, data, sl⟩, ho, hc, n, hd⟩, hz⟩ := I.tuple hS
  simp only at hc hd
  subst hc hd
  have hlen := r'.length
  rw [List.length_map] at hlen
  have hjl : j < ys.length := (List.getElem?_eq_some_iff.mp hj).1
  have hj2 : j < its.toArray.size := by simp; omega
  have at_ : ∀ (m : Nat) (hm : m < its.toArray.size) (y : Int), ys[m]? = some y → RelV (.int y) its.toArray[m] := by
    intro m hm y hy
    obtain ⟨u, h1, h2⟩ := r'.get (i := m) (x := V.int y) (by rw [List.getElem?_map, hy]; rfl)
    have h3 : its[m]'(by simpa using hm) = u := by
      rw [List.getElem?_eq_getElem (by simpa using hm)] at h1
      exact Option.some.inj h1
    show RelV (.int y) its.toArray[m]
    simp only [List.getElem_toArray]
    rw [h3]; exact h2
  refine call_meets PySem.F.slot_tuple_index ⟨_, ho, rfl⟩ PySem.F.entry_tuple_index (PySem.F.args_tuple_index_2 _ _)
    (TI.tuple_indexAt p its.toArray n dd sl uz (eqU (.int z)) j hj2 ?_ ?_) ⟨ho, ?_, ?_⟩
  · rw [eqU_of (at_ j hj2 z hj) rfl]
    show (z == z) = true
    simp
  · intro m hm hmj
    have hmy : m < ys.length := by simp at hm; omega
    rw [eqU_of (at_ m hm _ (List.getElem?_eq_getElem hmy)) rfl]
    show (ys[m] == z) = false
    have := hno m hmj
    rw [List.getElem?_eq_getElem hmy] at this
    exact beq_eq_false_iff_ne.mpr fun q => this (by rw [q])
  · intro y hy
    exact mem_eqAt rz rfl r' (by rw [List.all_map]; exact List.all_eq_true.mpr fun _ _ => rfl) y (by simpa using hy)
  · exact ⟨.int (j : Nat), H, I.tok _, ⟨_, rfl⟩, q⟩
/-- t.index(k): t a tuple whose object has no dict -/
theorem e_tupIx {o e : Expr} {apos cpos : Pos} {l : List Nat} {k : Nat} (ho : DV X c o ρ (tn l)) (he : DV X c e ρ (dn k)) (hk : k ∈ l)
    (hbase : attributeBase o "index" X.env (eval o X.env) = eval o X.env := by rfl)
    (hfew : ((backTo cpos (starEach (e :: []) X.env)).all (fun x => !x.1) && (backToKw cpos (keywordEach [] X.env)).all (fun x => x.1.isSome)
      && decide ((e :: []).length + ([] : List Keyword).length + (if ([] : List Keyword).isEmpty then 0 else 1) < 30)) = true := by rfl)
    (hline : (apos.endLine == cpos.line) = true := by rfl) (hs : starEach (e :: []) X.env = (false, eval e X.env) :: starEach [] X.env := by rfl) : DV X c (.Call (.Attribute o "index" apos) [e] [] cpos) ρ (dn (l.idxOf k)) := fun σ H G S => by
  intro pins s I
  refine wpAny_Call_method_late hbase hfew hline rfl (thn (ho σ H G S pins s I) fun v s1 ⟨x, H1, I1, r1, d, G1, q, g1, a1⟩ => ?_)
  subst q
  have hI : tn l = .tuple ((l.map fun n : Nat => (n : Int)).map PyData.int) := by unfold tn; rw [List.map_map]; rfl
  obtain ⟨p, ob, xs, rfl, h2, hd, h3, h4⟩ := At.sqT (K := X.K) g1.e (hI ▸ a1)
  rw [h4.ints] at h3
  cases r1
  obtain ⟨hob, _, its, _, o2, hg2, hcl, _⟩ := I1.hok p _ h2
  refine ⟨"tuple", "tuple.index", PySem.F.plainAttrs_tuple, PySem.F.slot_tuple_index, PySem.F.type_tuple_index, ⟨o2, hg2, hcl⟩, fun a e => ?_, ?_⟩
  · cases e
    exact ⟨ob, hob, hd⟩
  · have hA : wpAny (model X.prog X.w) X.A (spliced (backTo cpos (starEach (e :: []) X.env))) (AP X pins σ fun vs H2 => ∃ G2, Grow c.b G H G2 H2 ∧ vs = [.int (k : Int)] ∧ SqT X.K H2 p ((l.map fun n : Nat => (n : Int)).map V.int)) X.xe s1 := by
      refine (pa_cons peW pa_nil hs).run cpos pins s1 σ H1 _ I1 ?_
      refine tW_mono (he σ H1 G1 (S.grow g1)) fun y H2 ⟨d2, G2, q2, g2, a2⟩ => ?_
      subst q2
      cases a2
      have hpb : c.b ≠ some p := fun z => by
        obtain ⟨_, _, _, y⟩ := (g1.bg S.bag) p z
        rw [h2] at y; cases y
      refine ⟨G2, g1.trans S.bag g2, rfl, ?_⟩
      rcases h3 with h3 | h3
      · refine .inl ?_
        rcases h3 with h3 | ⟨o3, h3⟩
        · exact .inl (g2.h p _ hpb h3)
        · exact .inr ⟨o3, g2.h p _ hpb h3⟩
      · exact .inr h3
    rw [hs] at hA ⊢
    refine Calls.callWith_builtin (by rfl) (Calls.evalArgs_plain ?_)
    refine thn hA fun us s2 ⟨vs, H2, I2, r2, G2, g2, ev, hS⟩ => ?_
    subst ev
    obtain ⟨h5, h6⟩ := idx_spec hk
    refine mt_tupI pins s2 σ H2 (.ref p) [.int (k : Int)] (.ref p) us _ I2 rfl r2 ⟨p, _, (k : Int), l.idxOf k, rfl, rfl, hS, by rw [List.getElem?_map, h5]; rfl, fun m hm q => ?_, ⟨dn (l.idxOf k), G2, rfl, g2, .int _⟩⟩
    rw [List.getElem?_map] at q
    cases hmm : l[m]? with
    | none => rw [hmm] at q; cases q
    | some y =>
      rw [hmm] at q
      have : (y : Int) = (k : Int) := Option.some.inj q
      exact h6 m hm (by rw [hmm]; congr 1; omega)
/-- xs.index(k) of a list of numbers -/
theorem e_lstIx {o e : Expr} {apos cpos : Pos} {l : List Nat} {k : Nat} (ho : DV X c o ρ (ln l)) (he : DV X c e ρ (dn k)) (hk : k ∈ l)
    (hbase : attributeBase o "index" X.env (eval o X.env) = eval o X.env := by rfl)
    (hfew : ((backTo cpos (starEach (e :: []) X.env)).all (fun x => !x.1) && (backToKw cpos (keywordEach [] X.env)).all (fun x => x.1.isSome)
      && decide ((e :: []).length + ([] : List Keyword).length + (if ([] : List Keyword).isEmpty then 0 else 1) < 30)) = true := by rfl)
    (hline : (apos.endLine == cpos.line) = true := by rfl) (hs : starEach (e :: []) X.env = (false, eval e X.env) :: starEach [] X.env := by rfl) (hplain : (backTo cpos (starEach [] X.env)).any (·.1) = false := by rfl) : DV X c (.Call (.Attribute o "index" apos) [e] [] cpos) ρ (dn (l.idxOf k)) := fun σ H G S => by
  refine tW_of (pe_bm PySem.F.plainAttrs_list PySem.F.slot_list_index PySem.F.type_list_index mt_index peW (pa_cons peW pa_nil hs) hbase hfew hline hs hplain) ?_
  refine tW_mono (ho σ H G S) fun v H1 ⟨d, G1, q, g1, a1⟩ => ?_
  subst q
  have hI : ln l = .list ((l.map fun n : Nat => (n : Int)).map PyData.int) := by unfold ln; rw [List.map_map]; rfl
  obtain ⟨p, xs, rfl, h2, h3, h4⟩ := At.sqL (K := X.K) g1.e (hI ▸ a1)
  have hpb : c.b ≠ some p := fun z => by
    have := S.grow g1
    have hg := this.bagG p z
    cases a1 with
    | lst h _ => rw [hg] at h; cases h
  rw [h4.ints] at h2 h3
  refine ⟨.inl ⟨rfl, _, h3⟩, tW_mono (he σ H1 G1 (S.grow g1)) fun y H2 ⟨d2, G2, q2, g2, a2⟩ => ?_⟩
  subst q2
  cases a2
  obtain ⟨h5, h6⟩ := idx_spec hk
  refine ⟨p, _, .int (k : Int), l.idxOf k, .int (k : Int), rfl, rfl, SqL.of (g2.h p _ hpb h2), rfl, by rw [List.all_map]; exact List.all_eq_true.mpr fun _ _ => rfl, by rw [List.getElem?_map, List.getElem?_map, h5]; rfl, ?_, fun m z hm q => ?_, ?_⟩
  · show ((k : Int) == (k : Int)) = true
    simp
  · rw [List.getElem?_map, List.getElem?_map] at q
    cases hmm : l[m]? with
    | none => rw [hmm] at q; cases q
    | some y =>
      rw [hmm] at q
      cases q
      show ((y : Int) == (k : Int)) = false
      refine beq_eq_false_iff_ne.mpr fun r => h6 m hm (by rw [hmm]; congr 1; omega)
  · exact ⟨dn (l.idxOf k), G2, rfl, g1.trans S.bag g2, .int _⟩
end
end DL

/-! ## text DL7 -/
set_option Elab.async false
set_option linter.all false
set_option maxRecDepth 100000
set_option maxHeartbeats 4000000
/-! DL7: what is walked; isinstance; slices. -/
namespace DL
open PySem PySem.Spec PyProof.Rows L2

theorem Bnd.of {B : Bnd} {G : Hp} {v : V} {d : PyData} (h : DL.At G v d) : B.At G v d := by
  cases B with
  | one i => exact h
  | two i j => exact .base h
section
variable {X : Cx} {c : Ctx} {ρ : Rho} {pos : Pos} {e a b tg : Expr} {B : Bnd}
theorem walks_list {K : PySem.W.Frag} {p : Addr} {xs : List V} {ds : List PyData} {G1 : Hp} (h : G1 p = some (.lst xs)) (at1 : AtAll G1 xs ds) : Walks c B (Itl K p) ds G1 where
  go := fun G2 H2 i d e1 e2 hd => by
    obtain ⟨v, h1, _⟩ := at1.get hd
    exact ⟨xs, v, SqL.of (e2 _ _ (e1 _ _ h)), h1⟩
  yld := fun G2 H2 i d x H' e1 e2 hd y => by
    obtain ⟨rfl, hy⟩ := y
    obtain ⟨v, h1, h2⟩ := at1.get hd
    have := hy xs (SqL.of (e2 _ _ (e1 _ _ h)))
    rw [h1] at this
    cases this
    exact ⟨G2, Grow.refl e2, Bnd.of (h2.mono e1)⟩
  stop := fun G2 H2 e1 e2 => ⟨xs, SqL.of (e2 _ _ (e1 _ _ h)), by rw [at1.length]; exact Nat.le_refl _⟩
theorem walks_tup {K : PySem.W.Frag} {p : Addr} {xs : List V} {ds : List PyData} {G1 : Hp} {o : Obj} (h : G1 p = some (.frz o (.tup xs))) (at1 : AtAll G1 xs ds) : Walks c B (Itt K p) ds G1 where
  go := fun G2 H2 i d e1 e2 hd => by
    obtain ⟨v, h1, _⟩ := at1.get hd
    exact ⟨xs, v, .inl (.inr ⟨o, e2 _ _ (e1 _ _ h)⟩), h1⟩
  yld := fun G2 H2 i d x H' e1 e2 hd y => by
    obtain ⟨rfl, hy⟩ := y
    obtain ⟨v, h1, h2⟩ := at1.get hd
    have := hy xs (.inl (.inr ⟨o, e2 _ _ (e1 _ _ h)⟩))
    rw [h1] at this
    cases this
    exact ⟨G2, Grow.refl e2, Bnd.of (h2.mono e1)⟩
  stop := fun G2 H2 e1 e2 => ⟨xs, .inl (.inr ⟨o, e2 _ _ (e1 _ _ h)⟩), by rw [at1.length]; exact Nat.le_refl _⟩
theorem i_list {Q : List PyData → Prop} (h : DE X c e ρ (fun d => ∃ ds, d = .list ds ∧ Q ds)) : DI X c B tg e ρ Q := fun σ H G S =>
  tWI_of (pi_list peW) (tW_mono (h σ H G S) fun v H1 ⟨d, G1, ⟨ds, ed, q⟩, g, a⟩ => by
    subst ed
    cases a with
    | lst h1 h2 => exact ⟨_, rfl, ⟨_, SqL.of (g.e _ _ h1)⟩, ds, G1, q, g, walks_list h1 h2⟩)
theorem i_tup {Q : List PyData → Prop} (h : DE X c e ρ (fun d => ∃ ds, d = .tuple ds ∧ Q ds)) : DI X c B tg e ρ Q := fun σ H G S =>
  tWI_of (pi_tup peW) (tW_mono (h σ H G S) fun v H1 ⟨d, G1, ⟨ds, ed, q⟩, g, a⟩ => by
    subst ed
    cases a with
    | tup h1 hd h2 => exact ⟨_, rfl, ⟨_, .inl (.inr ⟨_, g.e _ _ h1⟩)⟩, ds, G1, q, g, walks_tup h1 h2⟩)
theorem iv_list {ds : List PyData} (h : DV X c e ρ (.list ds)) : DI X c B tg e ρ (fun as => as = ds) := i_list (h.imp fun d q => ⟨ds, q, rfl⟩)
theorem iv_tup {ds : List PyData} (h : DV X c e ρ (.tuple ds)) : DI X c B tg e ρ (fun as => as = ds) := i_tup (h.imp fun d q => ⟨ds, q, rfl⟩)
theorem walks_range {lo n : Nat} {G1 : Hp} : Walks c B (Itr (lo : Int) n) ((List.range n).map fun i => dn (lo + i)) G1 where
  go := fun G2 H2 i d e1 e2 hd => by
    have := (List.getElem?_eq_some_iff.mp hd).1
    simp at this
    exact this
  yld := fun G2 H2 i d x H' e1 e2 hd y => by
    obtain ⟨rfl, rfl⟩ := y
    have hl := (List.getElem?_eq_some_iff.mp hd).1
    rw [List.getElem?_eq_getElem hl] at hd
    simp at hd
    subst hd
    refine ⟨G2, Grow.refl e2, Bnd.of ?_⟩
    have : dn (lo + i) = .int ((lo : Int) + (i : Nat)) := by unfold dn; rw [Int.natCast_add]
    rw [this]
    exact .int _
  stop := fun G2 H2 e1 e2 => by
    show n ≤ _
    simp
/-- range(n), the number not below 0 -/
theorem i_range1 {p : Pos} {Q : Nat → Prop} (h : DE X c e ρ (fun d => ∃ n, d = dn n ∧ Q n ∧ n ≤ 1000000)) (hm : X.mg "range" = none) (hg : Gl X "range" := by rfl) (hs : starEach [e] X.env = (false, eval e X.env) :: starEach [] X.env := by rfl) :
    DI X c B tg (.Call (.Name "range" p) [e] [] pos) ρ (fun as => ∃ n, Q n ∧ as = (List.range n).map dn) := fun σ H G S =>
  tWI_of (pi_range1 hg hm (pa_cons peW pa_nil hs) hs) (tW_mono (h σ H G S) fun v H1 ⟨d, G1, ⟨n, ed, q, hn⟩, g, a⟩ => by
    subst ed
    cases a
    refine ⟨(n : Int), rfl, by omega, by omega, (List.range n).map dn, G1, ⟨n, q, rfl⟩, g, ?_⟩
    have := walks_range (c := c) (B := B) (lo := 0) (n := n) (G1 := G1)
    simpa using this)
theorem iv_range1 {p : Pos} {n : Nat} (h : DV X c e ρ (dn n)) (hn : n ≤ 1000000) (hm : X.mg "range" = none) (hg : Gl X "range" := by rfl) (hs : starEach [e] X.env = (false, eval e X.env) :: starEach [] X.env := by rfl) :
    DI X c B tg (.Call (.Name "range" p) [e] [] pos) ρ (fun as => as = (List.range n).map dn) := fun σ H G S =>
  tWI_mono (i_range1 (Q := fun m => m = n) (h.imp fun d q => ⟨n, q, rfl, hn⟩) hm hg hs σ H G S) fun J H' ⟨as, G', ⟨m, e1, e2⟩, r⟩ => ⟨as, G', by rw [e2, e1], r⟩
/-- range(a, b) -/
theorem iv_range2 {p : Pos} {m n : Nat} (ha : DV X c a ρ (dn m)) (hb : DV X c b ρ (dn n)) (hm' : m ≤ 1000000) (hn : n ≤ 1000000) (hm : X.mg "range" = none) (hg : Gl X "range" := by rfl)
    (hs : starEach [a, b] X.env = (false, eval a X.env) :: starEach [b] X.env := by rfl) (hs2 : starEach [b] X.env = (false, eval b X.env) :: starEach [] X.env := by rfl) :
    DI X c B tg (.Call (.Name "range" p) [a, b] [] pos) ρ (fun as => as = (List.range (n - m)).map fun i => dn (m + i)) := fun σ H G S =>
  tWI_of (pi_range2 hg hm (pa_cons peW (pa_cons peW pa_nil hs2) hs) (hs.trans (by rw [hs2]; rfl)) hs2) (bin2 ha hb S fun x y d1 d2 H2 G2 q1 q2 g a1 a2 => by
    subst q1 q2
    cases a1; cases a2
    refine ⟨(m : Int), (n : Int), rfl, ⟨by omega, by omega, by omega, by omega⟩, _, G2, rfl, g, ?_⟩
    have e1 : ((n : Int) - (m : Int)).toNat = n - m := by omega
    rw [e1]
    exact walks_range)
/-! pairs -/
/-- a tuple, or a new one -/
def DEw (X : Cx) (c : Ctx) (e : Expr) (ρ : Rho) (d : PyData) : Prop := ∀ σ H G, St c G σ H ρ → tW X e σ H fun v H' => ∃ G', Grow c.b G H G' H' ∧ Atw G' v d
theorem DE.w {d : PyData} (h : DV X c e ρ d) : DEw X c e ρ d := fun σ H G S => tW_mono (h σ H G S) fun v H' ⟨d', G', q, g, a⟩ => ⟨G', g, .base (q ▸ a)⟩
theorem Atw.get {K : PySem.W.Frag} {G : Hp} {v : V} {ds : List PyData} (h : Atw G v (.tuple ds)) : ∃ p xs, v = .ref p ∧ AtAll G xs ds ∧ ∀ H, Ex G H → SqT K H p xs := by
  cases h with
  | base h =>
    cases h with
    | tup h d a => exact ⟨_, _, rfl, a, fun H e => .inl (.inr ⟨_, e _ _ h⟩)⟩
  | tup h a => exact ⟨_, _, rfl, a, fun H e => .inl (.inl (e _ _ h))⟩
theorem walks_zip {K : PySem.W.Frag} {i j : Nat} {p q : Addr} {xs ys : List V} {ds es : List PyData} {G1 : Hp} (h1 : ∀ H, Ex G1 H → SqT K H p xs) (h2 : ∀ H, Ex G1 H → SqT K H q ys) (a1 : AtAll G1 xs ds) (a2 : AtAll G1 ys es) :
    Walks c (.two i j) (RZ.ItzT K p q) ((ds.zip es).map fun d => .tuple [d.1, d.2]) G1 where
  go := fun G2 H2 k d e1 e2 hd => by
    rw [List.getElem?_map] at hd
    cases hz : (ds.zip es)[k]? with
    | none => rw [hz] at hd; cases hd
    | some z =>
      obtain ⟨z1, z2⟩ := z
      have hz' := List.getElem?_zip_eq_some.mp hz
      obtain ⟨v, k1, _⟩ := a1.get hz'.1
      obtain ⟨w, k2, _⟩ := a2.get hz'.2
      exact ⟨xs, ys, v, w, h1 _ (e1.trans e2), h2 _ (e1.trans e2), k1, k2⟩
  yld := fun G2 H2 k d x H' e1 e2 hd y => by
    rw [List.getElem?_map] at hd
    cases hz : (ds.zip es)[k]? with
    | none => rw [hz] at hd; cases hd
    | some z =>
      obtain ⟨z1, z2⟩ := z
      rw [hz] at hd
      cases hd
      have hz' := List.getElem?_zip_eq_some.mp hz
      obtain ⟨v, k1, k1'⟩ := a1.get hz'.1
      obtain ⟨w, k2, k2'⟩ := a2.get hz'.2
      obtain ⟨T, u1, u2, rfl, nT, rfl, f1, f2⟩ := y
      have g1 := f1 xs (h1 _ (e1.trans e2))
      have g2 := f2 ys (h2 _ (e1.trans e2))
      rw [k1] at g1
      rw [k2] at g2
      cases g1; cases g2
      have en : Ex G2 (upd G2 T (.tup [v, w])) := Ex.new (e2.none nT)
      exact ⟨upd G2 T (.tup [v, w]), Grow.new e2 nT, .tup upd_same (.cons ((k1'.mono e1).mono en) (.cons ((k2'.mono e1).mono en) .nil))⟩
  stop := fun G2 H2 e1 e2 => by
    refine ⟨xs, ys, h1 _ (e1.trans e2), h2 _ (e1.trans e2), ?_⟩
    rw [List.length_map, List.length_zip, a1.length, a2.length]
    omega
theorem i_zip {i j : Nat} {p tpos : Pos} {elts : List Expr} {kk : Nat} {ds es : List PyData} (ha : DEw X c a ρ (.tuple ds)) (hb : DEw X c b ρ (.tuple es)) (hm : X.mg "zip" = none) (hg : Gl X "zip" := by rfl)
    (hs : starEach [a, b] X.env = (false, eval a X.env) :: starEach [b] X.env := by rfl) (hs2 : starEach [b] X.env = (false, eval b X.env) :: starEach [] X.env := by rfl) (hpl : (backTo pos (starEach [b] X.env)).any (·.1) = false := by rfl) :
    DI X c (.two i j) (.Tuple elts kk tpos) (.Call (.Name "zip" p) [a, b] [] pos) ρ (fun as => as = (ds.zip es).map fun d => .tuple [d.1, d.2]) := fun σ H G S =>
  tWI_of (RZ.pi_zipA hg hm (pa_cons peW (pa_cons peW pa_nil hs2) hs) hs hpl) (tW_mono (ha σ H G S) fun x H1 ⟨G1, g1, a1⟩ => tW_mono (hb σ H1 G1 (S.grow g1)) fun y H2 ⟨G2, g2, a2⟩ => by
    obtain ⟨p, xs, rfl, k1, k2⟩ := Atw.get (K := X.K) (a1.mono g2.g)
    obtain ⟨q, ys, rfl, l1, l2⟩ := Atw.get (K := X.K) a2
    exact ⟨p, q, xs, ys, rfl, .inr ⟨k2 _ g2.e, l2 _ g2.e, _, G2, rfl, g1.trans S.bag g2, walks_zip k2 l2 k1 l1⟩⟩)
/-- t[1:] of a tuple -/
theorem w_tail {kd : Nat} {p1 p2 : Pos} {ds : List PyData} (h : DV X c a ρ (.tuple ds)) : DEw X c (.Subscript a (.Slice (some (.Constant (.int 1) kd p1)) none none p2) pos) ρ (.tuple ds.tail) := fun σ H G S =>
  tW_of (pe_slice sl_tupA peW (po_some pe_int) po_none) (tW_mono (h σ H G S) fun x H1 ⟨d, G1, q, g, a1⟩ => by
    subst q
    obtain ⟨p, o, xs, rfl, h2, hd, h3, h4⟩ := At.sqT (K := X.K) g.e a1
    have hlen := h4.length
    have hcut : cutV xs (some 1) none = xs.tail := by
      unfold cutV
      rw [show HT.sIx xs.length 0 (some 1) = min 1 xs.length from HT.sIx_nat xs.length 0 1, HT.sIx_none]
      cases xs with
      | nil => rfl
      | cons x r =>
        rw [show min 1 (x :: r).length = 1 by rw [List.length_cons]; omega]
        show List.take ((x :: r).length - 1) r = r
        rw [List.length_cons, Nat.add_sub_cancel]
        exact List.take_length
    have htl : AtAll G1 xs.tail ds.tail := by
      cases h4 with
      | nil => exact .nil
      | cons _ t => exact t
    refine ⟨1, rfl, p, xs, rfl, h3, fun hw => ?_, fun hw q hq => ?_⟩
    · have he : xs = [] := by
        have := hw.1
        rw [show HT.sIx xs.length 0 (some 1) = min 1 xs.length from HT.sIx_nat xs.length 0 1] at this
        cases xs with
        | nil => rfl
        | cons x r => rw [List.length_cons] at this; omega
      subst he
      have : ds = [] := by cases ds with | nil => rfl | cons _ _ => simp at hlen
      subst this
      exact ⟨G1, g, .base a1⟩
    · rw [hcut]
      exact ⟨upd G1 q (.tup xs.tail), g.trans S.bag (Grow.new g.e hq), .tup upd_same (htl.mono (Ex.new (g.e.none hq)))⟩)

/-! ### isinstance -/
/-- the type's name -/
def tyName : PyData → String
  | .none => "NoneType" | .bool _ => "bool" | .int _ => "int" | .str _ => "str" | .list _ => "list" | .tuple _ => "tuple" | .dict _ => "dict"
theorem tyX_of {K : PySem.W.Frag} {G H : Hp} (e : Ex G H) {v : V} {d : PyData} (a : At G v d) : TyX K H v (.type (tyName d)) := by
  cases a with
  | non => exact .base .non
  | bl b => exact .base (.bl b)
  | int i => exact .base (.int i)
  | str x => exact .base (.str x)
  | lst h _ => exact .base (.lst (e _ _ h))
  | tup h _ _ => exact .fTuple (e _ _ h)
theorem e_isi {x : Str} {p p2 : Pos} {d : PyData} {T T1 : String} {k : Bool} (h : DV X c e ρ d) (hm : X.mg "isinstance" = none) (hm2 : X.mg x = none) (hv2 : bootBuiltins x = some (.type T)) (hk : ∀ K : PySem.W.Frag, PySem.W.kitOne K (.type T1) (.type T) = some k) (hT : tyName d = T1 := by rfl)
    (hg : Gl X "isinstance" := by rfl) (hg2 : Gl X x := by rfl) (hn2 : x ≠ "__name__" := by decide) (hd2 : (x == ("__debug__" : Str)) = false := by decide)
    (he : starEach [e, .Name x p2] X.env = (false, eval e X.env) :: starEach [.Name x p2] X.env := by rfl) (he2 : starEach [.Name x p2] X.env = (false, eval (.Name x p2) X.env) :: starEach [] X.env := by rfl) (hpl : (backTo pos (starEach [.Name x p2] X.env)).any (·.1) = false := by rfl) :
    DV X c (.Call (.Name "isinstance" p) [e, .Name x p2] [] pos) ρ (.bool k) := fun σ H G S =>
  tW_of (pe_callB call_isi hg hm (by decide +kernel) (pa_cons peW (pa_cons (pe_bltn (v := .ty T) hg2 hm2 hv2 rfl hn2 hd2) pa_nil he2) he) (by decide) (by decide) he hpl) (tW_mono (h σ H G S) fun v H1 ⟨d', G1, q, g, a⟩ => by
    subst q
    subst hT
    exact ⟨v, .ty T, _, _, k, rfl, .ty T, tyX_of g.e a, hk _, .bool k, G1, rfl, g, .bl k⟩)
end

/-! ### slices of lists -/
section
variable {K : PySem.W.Frag}
def cutD {α : Type} (xs : List α) (lo hi : Option Int) : List α := (xs.drop (HT.sIx xs.length 0 lo)).take (HT.sIx xs.length xs.length hi - HT.sIx xs.length 0 lo)
theorem d_slL {ds : List PyData} {lo hi : Option Int} : ∀ b x G H Qv, Ex G H → At G x (.list ds) → PostO b G H (fun r => r = cutD ds lo hi) Qv → rSlL K x lo hi H Qv := fun b x G H Qv e a p => by
  obtain ⟨q, xs, rfl, _, h3, h4⟩ := At.sqL (K := K) e a
  refine ⟨q, xs, rfl, h3, fun n hn => p.lst e hn rfl ?_⟩
  unfold cutV cutD
  rw [h4.length]
  exact (h4.drop _).take _
theorem cutD_to {α : Type} (xs : List α) (n : Nat) : cutD xs none (some (n : Int)) = xs.take n := by
  unfold cutD
  rw [HT.sIx_none, HT.sIx_nat]
  simp only [List.drop_zero, Nat.sub_zero]
  rw [List.take_eq_take_iff]
  omega
theorem cutD_from {α : Type} (xs : List α) (n : Nat) : cutD xs (some (n : Int)) none = xs.drop n := by
  unfold cutD
  rw [HT.sIx_none, HT.sIx_nat]
  by_cases h : n ≤ xs.length
  · rw [Nat.min_eq_left h, List.take_of_length_le (by rw [List.length_drop]; exact Nat.le_refl _)]
  · rw [Nat.min_eq_right (by omega), List.drop_eq_nil_of_le (by omega), List.drop_eq_nil_of_le (by omega)]
    simp
theorem cutD_mid {α : Type} (xs : List α) (m n : Nat) : cutD xs (some (m : Int)) (some (n : Int)) = (xs.drop m).take (n - m) := by
  unfold cutD
  rw [HT.sIx_nat, HT.sIx_nat]
  by_cases h : m ≤ xs.length
  · rw [Nat.min_eq_left h, List.take_eq_take_iff, List.length_drop]
    omega
  · rw [Nat.min_eq_right (show xs.length ≤ m by omega), List.drop_eq_nil_of_le (Nat.le_refl _), List.drop_eq_nil_of_le (show xs.length ≤ m by omega)]
    simp
end
end DL

/-! ## text DL8 -/
set_option Elab.async false
set_option linter.all false
set_option maxRecDepth 100000
set_option maxHeartbeats 4000000
/-! DL8: short rules. -/
namespace DL
open PySem PySem.Spec PyProof.Rows L2

section
variable {X : Cx} {c : Ctx} {ρ : Rho} {pos : Pos} {e a b : Expr}
/-- a def of the text is called -/
theorem e_cal {x : Str} {p : Pos} {es : List Expr} {ps : List Str} {k k' : Nat} {T : List PyData → (PyData → Prop) → Prop} {Qa : List PyData → Prop} {R : PyData → Prop} (C : Cal X.prog X.w X.K X.mg X.base x k ps (spD T)) (hr : Room k' X.A) (hk : k ≤ k')
    (ha : DA X c (e :: es) ρ Qa) (ht : ∀ ds, Qa ds → T ds R) (hg : Gl X x := by rfl) (hdb : (x == ("__debug__" : Str)) = false := by decide) (he : starEach (e :: es) X.env = (false, eval e X.env) :: starEach es X.env := by rfl) (hpl : (backTo pos (starEach es X.env)).any (·.1) = false := by rfl) :
    DE X c (.Call (.Name x p) (e :: es) [] pos) ρ R := by
  obtain ⟨f, fd, F, m, kp, b, _⟩ := C.ex
  exact e_call F (hr.mono hk) m kp b ha ht hg hdb he hpl
theorem e_calB (i : Nat) {x y : Str} {p py : Pos} {es : List Expr} {ps : List Str} {k k' : Nat} {T : List PyData → (PyData → Prop) → Prop} {Qa : List PyData → Prop} {R : PyData → Prop} (C : Cal X.prog X.w X.K X.mg X.base x k ps (spB T)) (hr : Room k' X.A) (hk : k ≤ k')
    (hρ : ρ[i]? = some (some .bag)) (ha : DA X c es ρ Qa) (ht : ∀ ds, Qa ds → T ds R) (hN : X.N[i]? = some y := by rfl) (hv : Vis X.env.scope y := by first | exact Or.inl rfl | exact Or.inr (Or.inl rfl) | exact Or.inr (Or.inr rfl))
    (hd : (y == ("__debug__" : Str)) = false := by decide) (hcd : (y == ("__classdict__" : Str)) = false := by decide)
    (hg : Gl X x := by rfl) (hdb : (x == ("__debug__" : Str)) = false := by decide) (he : starEach (.Name y py :: es) X.env = (false, eval (.Name y py) X.env) :: starEach es X.env := by rfl) (hpl : (backTo pos (starEach es X.env)).any (·.1) = false := by rfl) :
    DE X c (.Call (.Name x p) (.Name y py :: es) [] pos) ρ R := by
  obtain ⟨f, fd, F, m, kp, b, _⟩ := C.ex
  exact e_callBag i F (hr.mono hk) m kp b ha ht hρ hN hv hd hcd hg hdb he hpl
/-! built-ins of one argument -/
theorem e_all {p : Pos} {bs : List Bool} (hm : X.mg "all" = none) (hc : X.calm = true) (h : DV X c e ρ (.list (bs.map PyData.bool))) (hg : Gl X "all" := by rfl) (he : starEach [e] X.env = (false, eval e X.env) :: starEach [] X.env := by rfl) (hpl : (backTo pos (starEach [] X.env)).any (·.1) = false := by rfl) : DV X c (.Call (.Name "all" p) [e] [] pos) ρ (.bool (bs.all id)) :=
  e_callB (cr_all hc) hm (a_dv h a_nil he) (fun ds q => q ▸ d_all) (by decide +kernel) hg (by decide) (by decide) he hpl
theorem e_any {p : Pos} {bs : List Bool} (hm : X.mg "any" = none) (hc : X.calm = true) (h : DV X c e ρ (.list (bs.map PyData.bool))) (hg : Gl X "any" := by rfl) (he : starEach [e] X.env = (false, eval e X.env) :: starEach [] X.env := by rfl) (hpl : (backTo pos (starEach [] X.env)).any (·.1) = false := by rfl) : DV X c (.Call (.Name "any" p) [e] [] pos) ρ (.bool (bs.any id)) :=
  e_callB (cr_any hc) hm (a_dv h a_nil he) (fun ds q => q ▸ d_any) (by decide +kernel) hg (by decide) (by decide) he hpl
theorem e_len {p : Pos} {Q : PyData → Prop} {Q' : Nat → Prop} (hm : X.mg "len" = none) (h : DE X c e ρ Q) (m : ∀ d, Q d → ∃ ds, (d = .list ds ∨ d = .tuple ds) ∧ Q' ds.length) (hg : Gl X "len" := by rfl) (he : starEach [e] X.env = (false, eval e X.env) :: starEach [] X.env := by rfl) (hpl : (backTo pos (starEach [] X.env)).any (·.1) = false := by rfl) : DE X c (.Call (.Name "len" p) [e] [] pos) ρ (fun r => ∃ n, r = dn n ∧ Q' n) :=
  e_callB call_len_seq hm (a_one h he) (fun ds ⟨d, q1, q2⟩ => by
    subst q1
    obtain ⟨es, h1, h2⟩ := m d q2
    exact fun b vs G H Qv e a p => d_len (K := X.K) h1 b vs G H Qv e a fun v H' d' G' q g a' => p v H' d' G' ⟨_, q, h2⟩ g a') (by decide +kernel) hg (by decide) (by decide) he hpl
theorem v_len {p : Pos} {d : PyData} {ds : List PyData} {n : Nat} (hm : X.mg "len" = none) (h : DV X c e ρ d) (hd : d = .list ds ∨ d = .tuple ds) (hn : ds.length = n) (hg : Gl X "len" := by rfl) (he : starEach [e] X.env = (false, eval e X.env) :: starEach [] X.env := by rfl) (hpl : (backTo pos (starEach [] X.env)).any (·.1) = false := by rfl) : DV X c (.Call (.Name "len" p) [e] [] pos) ρ (dn n) :=
  (e_len (Q' := fun m => m = n) hm h (fun d' q => ⟨ds, by rw [q]; exact hd, hn⟩) hg he hpl).imp fun r ⟨m, h1, h2⟩ => by rw [h1, h2]
theorem e_tupOf {p : Pos} {Q : PyData → Prop} {Q' : PyData → Prop} (hm : X.mg "tuple" = none) (h : DE X c e ρ Q) (m : ∀ d, Q d → ∃ ds, (d = .list ds ∨ d = .tuple ds) ∧ Q' (.tuple ds)) (hg : Gl X "tuple" := by rfl) (he : starEach [e] X.env = (false, eval e X.env) :: starEach [] X.env := by rfl) (hpl : (backTo pos (starEach [] X.env)).any (·.1) = false := by rfl) : DE X c (.Call (.Name "tuple" p) [e] [] pos) ρ Q' :=
  e_callTy call_tupX hm (a_one h he) (fun ds ⟨d, q1, q2⟩ => by
    subst q1
    obtain ⟨es, h1, h2⟩ := m d q2
    rcases h1 with rfl | rfl
    · exact fun b vs G H Qv e a p => d_tupL (K := X.K) b vs G H Qv e a fun v H' d' G' q g a' => p v H' d' G' (by rw [q]; exact h2) g a'
    · exact fun b vs G H Qv e a p => d_tupT (K := X.K) b vs G H Qv e a fun v H' d' G' q g a' => p v H' d' G' (by rw [q]; exact h2) g a') (by decide +kernel) hg (by decide) (by decide) he hpl
theorem v_tupL {p : Pos} {ds : List PyData} (hm : X.mg "tuple" = none) (h : DV X c e ρ (.list ds)) (hg : Gl X "tuple" := by rfl) (he : starEach [e] X.env = (false, eval e X.env) :: starEach [] X.env := by rfl) (hpl : (backTo pos (starEach [] X.env)).any (·.1) = false := by rfl) : DV X c (.Call (.Name "tuple" p) [e] [] pos) ρ (.tuple ds) :=
  e_tupOf hm h (fun d q => ⟨ds, .inl q, rfl⟩) hg he hpl
theorem v_sum {p : Pos} {ns : List Int} (hm : X.mg "sum" = none) (hc : X.calm = true) (h : DV X c e ρ (.list (ns.map PyData.int))) (hg : Gl X "sum" := by rfl) (he : starEach [e] X.env = (false, eval e X.env) :: starEach [] X.env := by rfl) (hpl : (backTo pos (starEach [] X.env)).any (·.1) = false := by rfl) : DV X c (.Call (.Name "sum" p) [e] [] pos) ρ (.int ns.sum) :=
  e_callB (cr_sum hc) hm (a_dv h a_nil he) (fun ds q => q ▸ d_sum) (by decide +kernel) hg (by decide) (by decide) he hpl
theorem v_int {p : Pos} {i : Int} (hm : X.mg "int" = none) (h : DV X c e ρ (.int i)) (hg : Gl X "int" := by rfl) (he : starEach [e] X.env = (false, eval e X.env) :: starEach [] X.env := by rfl) (hpl : (backTo pos (starEach [] X.env)).any (·.1) = false := by rfl) : DV X c (.Call (.Name "int" p) [e] [] pos) ρ (.int i) :=
  e_callTy call_int1 hm (a_dv h a_nil he) (fun ds q => q ▸ d_int1) (by decide +kernel) hg (by decide) (by decide) he hpl
/-! arithmetic, comparisons of ints -/
theorem v_add {i j : Int} (ha : DV X c a ρ (.int i)) (hb : DV X c b ρ (.int j)) : DV X c (.BinOp a .Add b pos) ρ (.int (i + j)) := e_op op_add ha hb fun d1 d2 q1 q2 => by rw [q1, q2]; exact d_intop
theorem v_sub {i j : Int} (ha : DV X c a ρ (.int i)) (hb : DV X c b ρ (.int j)) : DV X c (.BinOp a .Sub b pos) ρ (.int (i - j)) := e_op op_sub ha hb fun d1 d2 q1 q2 => by rw [q1, q2]; exact d_intop
theorem v_mul {i j : Int} (ha : DV X c a ρ (.int i)) (hb : DV X c b ρ (.int j)) (h : CMul i j) : DV X c (.BinOp a .Mult b pos) ρ (.int (i * j)) := e_op op_mul ha hb fun d1 d2 q1 q2 => by rw [q1, q2]; exact d_intopC h
theorem v_mod {i j : Int} (ha : DV X c a ρ (.int i)) (hb : DV X c b ρ (.int j)) (h : 0 < j) : DV X c (.BinOp a .Mod b pos) ρ (.int (i % j)) := e_op op_mod ha hb fun d1 d2 q1 q2 => by rw [q1, q2]; exact d_intopC h
theorem v_fdiv {i j : Int} (ha : DV X c a ρ (.int i)) (hb : DV X c b ρ (.int j)) (h : CDiv i j) : DV X c (.BinOp a .FloorDiv b pos) ρ (.int (i / j)) := e_op op_fdiv ha hb fun d1 d2 q1 q2 => by rw [q1, q2]; exact d_intopC h
theorem v_pow {i j : Int} (ha : DV X c a ρ (.int i)) (hb : DV X c b ρ (.int j)) (h : CPow i j) : DV X c (.BinOp a .Pow b pos) ρ (.int (i ^ j.toNat)) := e_op op_pow ha hb fun d1 d2 q1 q2 => by rw [q1, q2]; exact d_intopC h
theorem v_lt {i j : Int} (ha : DV X c a ρ (.int i)) (hb : DV X c b ρ (.int j)) : DV X c (.Compare a [.Lt] [b] pos) ρ (.bool (decide (i < j))) := e_cmp op_lt ha hb fun d1 d2 q1 q2 => by rw [q1, q2]; exact d_intcmp
theorem v_le {i j : Int} (ha : DV X c a ρ (.int i)) (hb : DV X c b ρ (.int j)) : DV X c (.Compare a [.LtE] [b] pos) ρ (.bool (decide (i ≤ j))) := e_cmp op_le ha hb fun d1 d2 q1 q2 => by rw [q1, q2]; exact d_intcmp
theorem v_gt {i j : Int} (ha : DV X c a ρ (.int i)) (hb : DV X c b ρ (.int j)) : DV X c (.Compare a [.Gt] [b] pos) ρ (.bool (decide (j < i))) := e_cmp op_gt ha hb fun d1 d2 q1 q2 => by rw [q1, q2]; exact d_intcmp
theorem v_ge {i j : Int} (ha : DV X c a ρ (.int i)) (hb : DV X c b ρ (.int j)) : DV X c (.Compare a [.GtE] [b] pos) ρ (.bool (decide (j ≤ i))) := e_cmp op_ge ha hb fun d1 d2 q1 q2 => by rw [q1, q2]; exact d_intcmp
/-- == by data -/
theorem v_eqD {d1 d2 : PyData} (hu : X.A.units + 64 < cLine) (ha : DV X c a ρ d1) (hb : DV X c b ρ d2) (h1 : SeqAt.shaped d1 = true) (h2 : SeqAt.shaped d2 = true) : DV X c (.Compare a [.Eq] [b] pos) ρ (.bool (PyData.eqv d1 d2)) := e_cmp (op_eqD hu) ha hb fun e1 e2 q1 q2 => by rw [q1, q2]; exact d_eqD h1 h2
theorem v_neD {d1 d2 : PyData} (hu : X.A.units + 64 < cLine) (ha : DV X c a ρ d1) (hb : DV X c b ρ d2) (h1 : SeqAt.shaped d1 = true) (h2 : SeqAt.shaped d2 = true) : DV X c (.Compare a [.NotEq] [b] pos) ρ (.bool (!PyData.eqv d1 d2)) := e_cmp (op_neD hu) ha hb fun e1 e2 q1 q2 => by rw [q1, q2]; exact d_neD h1 h2
theorem v_eqE {α : Type} [DecidableEq α] {enc : α → PyData} {k : Nat} {x y : α} (hu : X.A.units + 64 < cLine) (hp : ∀ a, Pl k (enc a)) (hk : k ≤ 64) (hi : ∀ a b, enc a = enc b → a = b) (ha : DV X c a ρ (enc x)) (hb : DV X c b ρ (enc y)) : DV X c (.Compare a [.Eq] [b] pos) ρ (.bool (decide (x = y))) :=
  (v_eqD hu ha hb ((hp x).shaped hk) ((hp y).shaped hk)).is (by rw [eqv_enc (fun a => (hp a).p) hi])
theorem v_neE {α : Type} [DecidableEq α] {enc : α → PyData} {k : Nat} {x y : α} (hu : X.A.units + 64 < cLine) (hp : ∀ a, Pl k (enc a)) (hk : k ≤ 64) (hi : ∀ a b, enc a = enc b → a = b) (ha : DV X c a ρ (enc x)) (hb : DV X c b ρ (enc y)) : DV X c (.Compare a [.NotEq] [b] pos) ρ (.bool (!decide (x = y))) :=
  (v_neD hu ha hb ((hp x).shaped hk) ((hp y).shaped hk)).is (by rw [eqv_enc (fun a => (hp a).p) hi])
/-- k in a list or tuple of numbers -/
theorem seqI_tn (l : List Nat) : seqI (tn l) (l.map fun n : Nat => (n : Int)) := .inl (by unfold tn; rw [List.map_map]; rfl)
theorem seqI_ln (l : List Nat) : seqI (ln l) (l.map fun n : Nat => (n : Int)) := .inr (by unfold ln; rw [List.map_map]; rfl)
theorem mem_cast {k : Nat} {l : List Nat} : ((k : Int) ∈ l.map fun n : Nat => (n : Int)) ↔ k ∈ l := by
  rw [List.mem_map]
  exact ⟨fun ⟨n, h, e⟩ => by rw [show k = n by omega]; exact h, fun h => ⟨k, h, rfl⟩⟩
theorem dec_cast {k : Nat} {l : List Nat} : decide ((k : Int) ∈ l.map fun n : Nat => (n : Int)) = decide (k ∈ l) := by
  by_cases h : k ∈ l
  · rw [decide_eq_true h, decide_eq_true (mem_cast.mpr h)]
  · rw [decide_eq_false h, decide_eq_false fun q => h (mem_cast.mp q)]
theorem v_in {k : Nat} {l : List Nat} {d : PyData} (ha : DV X c a ρ (dn k)) (hb : DV X c b ρ d) (h : d = tn l ∨ d = ln l) (hm : behindInMarks .In b = false := by rfl) : DV X c (.Compare a [.In] [b] pos) ρ (.bool (decide (k ∈ l))) :=
  (e_cmp op_in_seq ha hb (Q := fun r => r = .bool (decide ((k : Int) ∈ l.map fun n : Nat => (n : Int)))) (fun d1 d2 q1 q2 => by
    rw [q1, q2]
    exact d_in (neg := false) (by rcases h with rfl | rfl; exact seqI_tn l; exact seqI_ln l)) hm).is (by rw [dec_cast])
theorem v_notIn {k : Nat} {l : List Nat} {d : PyData} (ha : DV X c a ρ (dn k)) (hb : DV X c b ρ d) (h : d = tn l ∨ d = ln l) (hm : behindInMarks .NotIn b = false := by rfl) : DV X c (.Compare a [.NotIn] [b] pos) ρ (.bool (!decide (k ∈ l))) :=
  (e_cmp op_notIn_seq ha hb (Q := fun r => r = .bool (!decide ((k : Int) ∈ l.map fun n : Nat => (n : Int)))) (fun d1 d2 q1 q2 => by
    rw [q1, q2]
    exact d_in (neg := true) (by rcases h with rfl | rfl; exact seqI_tn l; exact seqI_ln l)) hm).is (by rw [dec_cast])
/-- a tuple in a list or tuple of such -/
theorem v_inX {α : Type} [DecidableEq α] {enc : α → PyData} {k : Nat} {x : α} {l : List α} {d : PyData} (hu : X.A.units + 65 < cLine) (hp : ∀ a, Pl k (enc a)) (hk : k ≤ 63) (hi : ∀ a b, enc a = enc b → a = b) (ha : DV X c a ρ (enc x)) (hb : DV X c b ρ d) (h : d = .list (l.map enc) ∨ d = .tuple (l.map enc)) (hm : behindInMarks .In b = false := by rfl) : DV X c (.Compare a [.In] [b] pos) ρ (.bool (decide (x ∈ l))) :=
  (e_cmp (op_inX hu) ha hb (fun d1 d2 q1 q2 => by rw [q1, q2]; exact d_inX (neg := false) h ((hp x).shaped (by omega)) ((Pl.lsts l hp).shaped (by omega))) hm).is (by rw [any_enc (fun a => (hp a).p) hi]; rfl)
theorem v_notInX {α : Type} [DecidableEq α] {enc : α → PyData} {k : Nat} {x : α} {l : List α} {d : PyData} (hu : X.A.units + 65 < cLine) (hp : ∀ a, Pl k (enc a)) (hk : k ≤ 63) (hi : ∀ a b, enc a = enc b → a = b) (ha : DV X c a ρ (enc x)) (hb : DV X c b ρ d) (h : d = .list (l.map enc) ∨ d = .tuple (l.map enc)) (hm : behindInMarks .NotIn b = false := by rfl) : DV X c (.Compare a [.NotIn] [b] pos) ρ (.bool (!decide (x ∈ l))) :=
  (e_cmp (op_notInX hu) ha hb (fun d1 d2 q1 q2 => by rw [q1, q2]; exact d_inX (neg := true) h ((hp x).shaped (by omega)) ((Pl.lsts l hp).shaped (by omega))) hm).is (by rw [any_enc (fun a => (hp a).p) hi]; rfl)
/-- items at a number -/
theorem atI_map {α : Type} {enc : α → PyData} {l : List α} {n : Nat} {x : α} (h : l[n]? = some x) : atI (l.map enc) (n : Int) = some (enc x) := atI_nat (by rw [List.getElem?_map, h]; rfl)
theorem v_ixT {ds : List PyData} {i : Int} {d : PyData} (ha : DV X c a ρ (.tuple ds)) (hb : DV X c b ρ (.int i)) (h : atI ds i = some d) (hs : PlainIx b := by exact (fun _ _ => rfl)) : DV X c (.Subscript a b pos) ρ d := e_ix ix_tup ha hb (fun d1 d2 q1 q2 => by rw [q1, q2]; exact d_ixT h) hs
theorem v_ixL {ds : List PyData} {i : Int} {d : PyData} (ha : DV X c a ρ (.list ds)) (hb : DV X c b ρ (.int i)) (h : atI ds i = some d) (hs : PlainIx b := by exact (fun _ _ => rfl)) : DV X c (.Subscript a b pos) ρ d := e_ix ix_list ha hb (fun d1 d2 q1 q2 => by rw [q1, q2]; exact d_ixL h) hs
/-- .. of an encoded tuple -/
theorem v_at {α : Type} {enc : α → PyData} {l : List α} {n : Nat} {x : α} (ha : DV X c a ρ (.tuple (l.map enc))) (hb : DV X c b ρ (dn n)) (h : l[n]? = some x) (hs : PlainIx b := by exact (fun _ _ => rfl)) : DV X c (.Subscript a b pos) ρ (enc x) := v_ixT ha hb (atI_map h) hs
/-- [e for x in xs], every item -/
theorem o_map {α : Type} {xs : List α} {enc : α → PyData} {f : α → PyData} {B : Bnd} {elt tg iter : Expr} {scope : Scope} (own : List (Str × Nat)) (hc : X.calm = true) (hN : X.N.Nodup) (ok : BlkOk X.N X.env.scope scope own) (hB : ∀ i ∈ B.sl, i ∈ own.map (·.2)) (hlt : B.lt c.n)
    (hi : DI X c B tg iter ρ (fun as => as = xs.map enc)) (hok : ∀ x ∈ xs, B.ok (enc x)) (hg : Blk X scope fun X' => PG X' tg (B.g X.K)) (hlen : xs.length ≤ 100000)
    (he : ∀ x ∈ xs, Blk X scope fun X' => DV X' c elt (B.put (enc x) (wip ρ (own.map (·.2)))) (f x))
    (hs : ∀ x, foldedSetIterable iter X.env x = pure x := by intro _; rfl) :
    DC X c (.ListComp elt [⟨tg, iter, [], 0⟩] scope pos) ρ (fun ds => ds = xs.map f) :=
  (o_lc (p := fun _ => true) own hc hN ok hB hlt hi hok hg (fun x hx _ _ _ _ _ => ts_nil) (fun x hx _ => he x hx) hlen hs).imp fun ds q => by rw [q, List.filter_eq_self.mpr (fun _ _ => rfl)]
theorem v_is {d d' : PyData} (h : DV X c e ρ d) (q : d = d') : DV X c e ρ d' := q ▸ h
theorem e_imp {Q Q' : PyData → Prop} (h : DE X c e ρ Q) (m : ∀ d, Q d → Q' d) : DE X c e ρ Q' := h.imp m
theorem v_lst {ds ds' : List PyData} (h : DC X c e ρ (fun d => d = ds)) (q : ds = ds') : DV X c e ρ (.list ds') := q ▸ h.o.dv
theorem v_lstO {ds ds' : List PyData} (h : DO X c e ρ (fun d => d = ds)) (q : ds = ds') : DV X c e ρ (.list ds') := q ▸ h.dv
theorem lc_is {ds ds' : List PyData} (h : DC X c e ρ (fun d => d = ds)) (q : ds = ds') : DC X c e ρ (fun d => d = ds') := q ▸ h
theorem o_imp {Q Q' : List PyData → Prop} (h : DO X c e ρ Q) (m : ∀ d, Q d → Q' d) : DO X c e ρ Q' := h.imp m
/-- [elt for x in iter if test], x the name at slot i -/
theorem o_flt1 (i : Nat) {α : Type} {xs : List α} {enc : α → PyData} {p : α → Bool} {f : α → PyData} {elt iter : Expr} {ifs : List Expr} {scope : Scope} {nm : Str} {px : Pos} {N ps : List Str} {sc : Scope} (S : FnScope N ps sc)
    (hi : DI X c (.one i) (.Name nm px) iter ρ (fun as => as = xs.map enc)) (hlen : xs.length ≤ 100000)
    (ht : ∀ x ∈ xs, Blk X scope fun X' => DTs X' c ifs ((wip ρ [i]).set i (some (.dat (enc x)))) (p x))
    (he : ∀ x ∈ xs, p x = true → Blk X scope fun X' => DV X' c elt ((wip ρ [i]).set i (some (.dat (enc x)))) (f x))
    (hlt : i < c.n := by exact Nat.le_of_ble_eq_true rfl) (hc : X.calm = true := by rfl) (hXN : X.N = N := by rfl) (hsc : X.env.scope = sc := by rfl) (ok : blkC N sc scope [(nm, i)] = true := by decide +kernel) (hxi : N[i]? = some nm := by rfl)
    (hloc : ∀ C cl, Loc (compEnvC scope cl C X.env).scope nm := by intro _ _; exact Or.inl rfl) (hfn : scope.names.lookup nm = some .cell ∨ ∀ C cl, (compEnvC scope cl C X.env).scope.names.lookup nm = some .local := by first | exact Or.inr (fun _ _ => rfl) | exact Or.inl rfl)
    (hs : ∀ x, foldedSetIterable iter X.env x = pure x := by intro _; rfl) :
    DC X c (.ListComp elt [⟨.Name nm px, iter, ifs, 0⟩] scope pos) ρ (fun ds => ds = (xs.filter p).map f) :=
  o_lc (B := .one i) [(nm, i)] hc (hXN ▸ S.nd) (by rw [hXN, hsc]; exact blkOk_by ok) (fun j hj => by simpa [Bnd.sl] using hj) hlt hi (fun _ _ => trivial)
    (fun s H C cl fp => pg_name (X := X.blk s H scope (compEnvC scope cl C X.env) fp) (hXN ▸ S.nd) (by show X.N[i]? = some nm; rw [hXN]; exact hxi) (hloc C cl) (by
      rcases hfn with h | h
      · exact .inl (by show (scope.names.lookup nm == some .cell) = true; rw [h]; rfl)
      · exact .inr (h C cl))) ht he hlen hs
theorem o_map1 (i : Nat) {α : Type} {xs : List α} {enc : α → PyData} {f : α → PyData} {elt iter : Expr} {scope : Scope} {nm : Str} {px : Pos} {N ps : List Str} {sc : Scope} (S : FnScope N ps sc)
    (hi : DI X c (.one i) (.Name nm px) iter ρ (fun as => as = xs.map enc)) (hlen : xs.length ≤ 100000)
    (he : ∀ x ∈ xs, Blk X scope fun X' => DV X' c elt ((wip ρ [i]).set i (some (.dat (enc x)))) (f x))
    (hlt : i < c.n := by exact Nat.le_of_ble_eq_true rfl) (hc : X.calm = true := by rfl) (hXN : X.N = N := by rfl) (hsc : X.env.scope = sc := by rfl) (ok : blkC N sc scope [(nm, i)] = true := by decide +kernel) (hxi : N[i]? = some nm := by rfl)
    (hloc : ∀ C cl, Loc (compEnvC scope cl C X.env).scope nm := by intro _ _; exact Or.inl rfl) (hfn : scope.names.lookup nm = some .cell ∨ ∀ C cl, (compEnvC scope cl C X.env).scope.names.lookup nm = some .local := by first | exact Or.inr (fun _ _ => rfl) | exact Or.inl rfl)
    (hs : ∀ x, foldedSetIterable iter X.env x = pure x := by intro _; rfl) :
    DC X c (.ListComp elt [⟨.Name nm px, iter, [], 0⟩] scope pos) ρ (fun ds => ds = xs.map f) :=
  (o_flt1 (p := fun _ => true) i S hi hlen (fun x hx _ _ _ _ _ => ts_nil) (fun x hx _ => he x hx) hlt hc hXN hsc ok hxi hloc hfn hs).imp fun ds q => by rw [q, List.filter_eq_self.mpr (fun _ _ => rfl)]
/-- [elt for x, y in iter if test], x, y the names at slots i, j -/
theorem o_flt2 (i j : Nat) {α : Type} {xs : List α} {e1 e2 : α → PyData} {p : α → Bool} {f : α → PyData} {elt iter : Expr} {ifs : List Expr} {scope : Scope} {nm nm2 : Str} {px py pt : Pos} {kt : Nat} {N ps : List Str} {sc : Scope} (S : FnScope N ps sc)
    (hi : DI X c (.two i j) (.Tuple [.Name nm px, .Name nm2 py] kt pt) iter ρ (fun as => as = xs.map fun x => .tuple [e1 x, e2 x])) (hlen : xs.length ≤ 100000)
    (ht : ∀ x ∈ xs, Blk X scope fun X' => DTs X' c ifs (((wip ρ [i, j]).set i (some (.dat (e1 x)))).set j (some (.dat (e2 x)))) (p x))
    (he : ∀ x ∈ xs, p x = true → Blk X scope fun X' => DV X' c elt (((wip ρ [i, j]).set i (some (.dat (e1 x)))).set j (some (.dat (e2 x)))) (f x))
    (hlt : i < c.n ∧ j < c.n := by exact ⟨Nat.le_of_ble_eq_true rfl, Nat.le_of_ble_eq_true rfl⟩) (hc : X.calm = true := by rfl) (hXN : X.N = N := by rfl) (hsc : X.env.scope = sc := by rfl) (ok : blkC N sc scope [(nm, i), (nm2, j)] = true := by decide +kernel) (hxi : N[i]? = some nm := by rfl) (hxj : N[j]? = some nm2 := by rfl)
    (hloc : ∀ C cl, (compEnvC scope cl C X.env).scope.names.lookup nm = some .local := by intro _ _; rfl) (hloc2 : ∀ C cl, (compEnvC scope cl C X.env).scope.names.lookup nm2 = some .local := by intro _ _; rfl)
    (hn : ∀ C cl, (assignEach [.Name nm px, .Name nm2 py] (compEnvC scope cl C X.env)).length = 2 := by intro _ _; rfl) (hst : ∀ C cl, (assignEach [.Name nm px, .Name nm2 py] (compEnvC scope cl C X.env)).findIdx? (·.1) = none := by intro _ _; rfl)
    (hs : ∀ x, foldedSetIterable iter X.env x = pure x := by intro _; rfl) :
    DC X c (.ListComp elt [⟨.Tuple [.Name nm px, .Name nm2 py] kt pt, iter, ifs, 0⟩] scope pos) ρ (fun ds => ds = (xs.filter p).map f) :=
  o_lc (B := .two i j) [(nm, i), (nm2, j)] hc (hXN ▸ S.nd) (by rw [hXN, hsc]; exact blkOk_by ok) (fun k hk => by simpa [Bnd.sl] using hk) hlt hi (fun x _ => ⟨_, _, rfl⟩)
    (fun s H C cl fp => tg_two (X := X.blk s H scope (compEnvC scope cl C X.env) fp) hc (hXN ▸ S.nd) (by show X.N[i]? = some nm; rw [hXN]; exact hxi) (by show X.N[j]? = some nm2; rw [hXN]; exact hxj) (.inl (hloc C cl)) (.inl (hloc2 C cl)) (.inr (hloc C cl)) (.inr (hloc2 C cl)) (hn C cl) (hst C cl)) ht he hlen hs
theorem o_map2 (i j : Nat) {α : Type} {xs : List α} {e1 e2 : α → PyData} {f : α → PyData} {elt iter : Expr} {scope : Scope} {nm nm2 : Str} {px py pt : Pos} {kt : Nat} {N ps : List Str} {sc : Scope} (S : FnScope N ps sc)
    (hi : DI X c (.two i j) (.Tuple [.Name nm px, .Name nm2 py] kt pt) iter ρ (fun as => as = xs.map fun x => .tuple [e1 x, e2 x])) (hlen : xs.length ≤ 100000)
    (he : ∀ x ∈ xs, Blk X scope fun X' => DV X' c elt (((wip ρ [i, j]).set i (some (.dat (e1 x)))).set j (some (.dat (e2 x)))) (f x))
    (hlt : i < c.n ∧ j < c.n := by exact ⟨Nat.le_of_ble_eq_true rfl, Nat.le_of_ble_eq_true rfl⟩) (hc : X.calm = true := by rfl) (hXN : X.N = N := by rfl) (hsc : X.env.scope = sc := by rfl) (ok : blkC N sc scope [(nm, i), (nm2, j)] = true := by decide +kernel) (hxi : N[i]? = some nm := by rfl) (hxj : N[j]? = some nm2 := by rfl)
    (hloc : ∀ C cl, (compEnvC scope cl C X.env).scope.names.lookup nm = some .local := by intro _ _; rfl) (hloc2 : ∀ C cl, (compEnvC scope cl C X.env).scope.names.lookup nm2 = some .local := by intro _ _; rfl)
    (hn : ∀ C cl, (assignEach [.Name nm px, .Name nm2 py] (compEnvC scope cl C X.env)).length = 2 := by intro _ _; rfl) (hst : ∀ C cl, (assignEach [.Name nm px, .Name nm2 py] (compEnvC scope cl C X.env)).findIdx? (·.1) = none := by intro _ _; rfl)
    (hs : ∀ x, foldedSetIterable iter X.env x = pure x := by intro _; rfl) :
    DC X c (.ListComp elt [⟨.Tuple [.Name nm px, .Name nm2 py] kt pt, iter, [], 0⟩] scope pos) ρ (fun ds => ds = xs.map f) :=
  (o_flt2 (p := fun _ => true) i j S hi hlen (fun x hx _ _ _ _ _ => ts_nil) (fun x hx _ => he x hx) hlt hc hXN hsc ok hxi hxj hloc hloc2 hn hst hs).imp fun ds q => by rw [q, List.filter_eq_self.mpr (fun _ _ => rfl)]
/-- zip(t, t[1:]) of an encoded tuple -/
theorem i_next {α : Type} {enc : α → PyData} {l : List α} {i j : Nat} {p tpos p1 p2 ps' : Pos} {elts : List Expr} {kk kd : Nat} (ha : DV X c a ρ (.tuple (l.map enc))) (hb : DV X c b ρ (.tuple (l.map enc))) (hm : X.mg "zip" = none) (hg : Gl X "zip" := by rfl)
    (hs : starEach [a, .Subscript b (.Slice (some (.Constant (.int 1) kd p1)) none none p2) ps'] X.env = (false, eval a X.env) :: starEach [.Subscript b (.Slice (some (.Constant (.int 1) kd p1)) none none p2) ps'] X.env := by rfl)
    (hs2 : starEach [.Subscript b (.Slice (some (.Constant (.int 1) kd p1)) none none p2) ps'] X.env = (false, eval (.Subscript b (.Slice (some (.Constant (.int 1) kd p1)) none none p2) ps') X.env) :: starEach [] X.env := by rfl)
    (hpl : (backTo pos (starEach [.Subscript b (.Slice (some (.Constant (.int 1) kd p1)) none none p2) ps'] X.env)).any (·.1) = false := by rfl) :
    DI X c (.two i j) (.Tuple elts kk tpos) (.Call (.Name "zip" p) [a, .Subscript b (.Slice (some (.Constant (.int 1) kd p1)) none none p2) ps'] [] pos) ρ (fun as => as = (l.zip l.tail).map fun x => .tuple [enc x.1, enc x.2]) := fun σ H G S =>
  tWI_mono (i_zip (DE.w ha) (w_tail hb) hm hg hs hs2 hpl σ H G S) fun J H' ⟨as, G', q, r⟩ => ⟨as, G', by
    rw [q, ← List.map_tail, List.zip_map, List.map_map]; rfl, r⟩
theorem t_is {k k' : Bool} (h : DT X c e ρ (fun q => q = k)) (q : k = k') : DT X c e ρ (fun q => q = k') := q ▸ h
/-! tests: calls, comparisons -/
theorem t_call {f : Expr} {es : List Expr} {kws : List Keyword} {k : Bool} (h : DV X c (.Call f es kws pos) ρ (.bool k)) : DT X c (.Call f es kws pos) ρ (fun q => q = k) := t_dv h
theorem t_callE {f : Expr} {es : List Expr} {kws : List Keyword} {Q : PyData → Prop} {Q' : Bool → Prop} (h : DE X c (.Call f es kws pos) ρ Q) (m : ∀ d, Q d → ∃ k, d = .bool k ∧ Q' k) : DT X c (.Call f es kws pos) ρ Q' := t_val h m
theorem t_name {x : Str} {k : Bool} (h : DV X c (.Name x pos) ρ (.bool k)) : DT X c (.Name x pos) ρ (fun q => q = k) := t_dv h
theorem b_id {k : Bool} : ∀ d : PyData, d = .bool k → ∃ k', d = .bool k' ∧ k' = k := fun d q => ⟨k, q, rfl⟩
theorem t_lt {i j : Int} (ha : DV X c a ρ (.int i)) (hb : DV X c b ρ (.int j)) : DT X c (.Compare a [.Lt] [b] pos) ρ (fun q => q = decide (i < j)) := t_cmp op_lt ha hb (fun d1 d2 q1 q2 => by rw [q1, q2]; exact d_intcmp) b_id
theorem t_le {i j : Int} (ha : DV X c a ρ (.int i)) (hb : DV X c b ρ (.int j)) : DT X c (.Compare a [.LtE] [b] pos) ρ (fun q => q = decide (i ≤ j)) := t_cmp op_le ha hb (fun d1 d2 q1 q2 => by rw [q1, q2]; exact d_intcmp) b_id
theorem t_gt {i j : Int} (ha : DV X c a ρ (.int i)) (hb : DV X c b ρ (.int j)) : DT X c (.Compare a [.Gt] [b] pos) ρ (fun q => q = decide (j < i)) := t_cmp op_gt ha hb (fun d1 d2 q1 q2 => by rw [q1, q2]; exact d_intcmp) b_id
theorem t_ge {i j : Int} (ha : DV X c a ρ (.int i)) (hb : DV X c b ρ (.int j)) : DT X c (.Compare a [.GtE] [b] pos) ρ (fun q => q = decide (j ≤ i)) := t_cmp op_ge ha hb (fun d1 d2 q1 q2 => by rw [q1, q2]; exact d_intcmp) b_id
theorem t_eqD {d1 d2 : PyData} (hu : X.A.units + 64 < cLine) (ha : DV X c a ρ d1) (hb : DV X c b ρ d2) (h1 : SeqAt.shaped d1 = true) (h2 : SeqAt.shaped d2 = true) : DT X c (.Compare a [.Eq] [b] pos) ρ (fun q => q = PyData.eqv d1 d2) := t_cmp (op_eqD hu) ha hb (fun e1 e2 q1 q2 => by rw [q1, q2]; exact d_eqD h1 h2) b_id
theorem t_neD {d1 d2 : PyData} (hu : X.A.units + 64 < cLine) (ha : DV X c a ρ d1) (hb : DV X c b ρ d2) (h1 : SeqAt.shaped d1 = true) (h2 : SeqAt.shaped d2 = true) : DT X c (.Compare a [.NotEq] [b] pos) ρ (fun q => q = !PyData.eqv d1 d2) := t_cmp (op_neD hu) ha hb (fun e1 e2 q1 q2 => by rw [q1, q2]; exact d_neD h1 h2) b_id
theorem t_eqE {α : Type} [DecidableEq α] {enc : α → PyData} {k : Nat} {x y : α} (hu : X.A.units + 64 < cLine) (hp : ∀ a, Pl k (enc a)) (hk : k ≤ 64) (hi : ∀ a b, enc a = enc b → a = b) (ha : DV X c a ρ (enc x)) (hb : DV X c b ρ (enc y)) : DT X c (.Compare a [.Eq] [b] pos) ρ (fun q => q = decide (x = y)) :=
  t_is (t_eqD hu ha hb ((hp x).shaped hk) ((hp y).shaped hk)) (by rw [eqv_enc (fun a => (hp a).p) hi])
theorem t_neE {α : Type} [DecidableEq α] {enc : α → PyData} {k : Nat} {x y : α} (hu : X.A.units + 64 < cLine) (hp : ∀ a, Pl k (enc a)) (hk : k ≤ 64) (hi : ∀ a b, enc a = enc b → a = b) (ha : DV X c a ρ (enc x)) (hb : DV X c b ρ (enc y)) : DT X c (.Compare a [.NotEq] [b] pos) ρ (fun q => q = !decide (x = y)) :=
  t_is (t_neD hu ha hb ((hp x).shaped hk) ((hp y).shaped hk)) (by rw [eqv_enc (fun a => (hp a).p) hi])
theorem t_in {k : Nat} {l : List Nat} {d : PyData} (ha : DV X c a ρ (dn k)) (hb : DV X c b ρ d) (h : d = tn l ∨ d = ln l) (hm : behindInMarks .In b = false := by rfl) : DT X c (.Compare a [.In] [b] pos) ρ (fun q => q = decide (k ∈ l)) :=
  t_is (t_cmp op_in_seq ha hb (Q := fun r => r = .bool (decide ((k : Int) ∈ l.map fun n : Nat => (n : Int)))) (fun d1 d2 q1 q2 => by
    rw [q1, q2]
    exact d_in (neg := false) (by rcases h with rfl | rfl; exact seqI_tn l; exact seqI_ln l)) b_id hm) (by rw [dec_cast])
theorem t_notIn {k : Nat} {l : List Nat} {d : PyData} (ha : DV X c a ρ (dn k)) (hb : DV X c b ρ d) (h : d = tn l ∨ d = ln l) (hm : behindInMarks .NotIn b = false := by rfl) : DT X c (.Compare a [.NotIn] [b] pos) ρ (fun q => q = !decide (k ∈ l)) :=
  t_is (t_cmp op_notIn_seq ha hb (Q := fun r => r = .bool (!decide ((k : Int) ∈ l.map fun n : Nat => (n : Int)))) (fun d1 d2 q1 q2 => by
    rw [q1, q2]
    exact d_in (neg := true) (by rcases h with rfl | rfl; exact seqI_tn l; exact seqI_ln l)) b_id hm) (by rw [dec_cast])
theorem t_inX {α : Type} [DecidableEq α] {enc : α → PyData} {k : Nat} {x : α} {l : List α} {d : PyData} (hu : X.A.units + 65 < cLine) (hp : ∀ a, Pl k (enc a)) (hk : k ≤ 63) (hi : ∀ a b, enc a = enc b → a = b) (ha : DV X c a ρ (enc x)) (hb : DV X c b ρ d) (h : d = .list (l.map enc) ∨ d = .tuple (l.map enc)) (hm : behindInMarks .In b = false := by rfl) : DT X c (.Compare a [.In] [b] pos) ρ (fun q => q = decide (x ∈ l)) :=
  t_is (t_cmp (op_inX hu) ha hb (fun d1 d2 q1 q2 => by rw [q1, q2]; exact d_inX (neg := false) h ((hp x).shaped (by omega)) ((Pl.lsts l hp).shaped (by omega))) b_id hm) (by rw [any_enc (fun a => (hp a).p) hi]; rfl)
theorem t_notInX {α : Type} [DecidableEq α] {enc : α → PyData} {k : Nat} {x : α} {l : List α} {d : PyData} (hu : X.A.units + 65 < cLine) (hp : ∀ a, Pl k (enc a)) (hk : k ≤ 63) (hi : ∀ a b, enc a = enc b → a = b) (ha : DV X c a ρ (enc x)) (hb : DV X c b ρ d) (h : d = .list (l.map enc) ∨ d = .tuple (l.map enc)) (hm : behindInMarks .NotIn b = false := by rfl) : DT X c (.Compare a [.NotIn] [b] pos) ρ (fun q => q = !decide (x ∈ l)) :=
  t_is (t_cmp (op_notInX hu) ha hb (fun d1 d2 q1 q2 => by rw [q1, q2]; exact d_inX (neg := true) h ((hp x).shaped (by omega)) ((Pl.lsts l hp).shaped (by omega))) b_id hm) (by rw [any_enc (fun a => (hp a).p) hi]; rfl)
end
end DL

/-! ## text DL9 -/
set_option Elab.async false
set_option linter.all false
set_option maxRecDepth 100000
set_option maxHeartbeats 4000000
/-! DL9: two clauses, orders. -/
namespace DL
open PySem PySem.Spec PyProof.Rows L2
section
variable {X : Cx} {c : Ctx} {ρ : Rho} {pos : Pos} {e a b : Expr}
theorem flat_len {α β : Type} {M : Nat} (f : α → List β) : ∀ l : List α, (∀ x ∈ l, (f x).length ≤ M) → (l.flatMap f).length ≤ l.length * M
  | [], _ => by simp
  | x :: l, h => by
    rw [List.flatMap_cons, List.length_append, List.length_cons, Nat.add_mul]
    have h1 := h x List.mem_cons_self
    have h2 := flat_len f l fun y hy => h y (List.mem_cons_of_mem _ hy)
    omega
theorem o_two (i j : Nat) (M : Nat) {α β : Type} {xs : List α} {enc : α → PyData} {ys : α → List β} {enc1 : β → PyData} {p1 : α → β → Bool} {f : α → β → PyData} {elt iter iter1 : Expr} {ifs1 : List Expr} {scope : Scope} {nm nm2 : Str} {px py : Pos} {N ps : List Str} {sc : Scope} (S : FnScope N ps sc)
    (hi : DI X c (.one i) (.Name nm px) iter ρ (fun as => as = xs.map enc))
    (hi1 : ∀ x ∈ xs, Blk X scope fun X' => DI X' c (.one j) (.Name nm2 py) iter1 ((wip ρ [i, j]).set i (some (.dat (enc x)))) (fun as => as = (ys x).map enc1))
    (hM : ∀ x ∈ xs, (ys x).length ≤ M) (hlen : xs.length * M ≤ 100000)
    (ht1 : ∀ x ∈ xs, ∀ y ∈ ys x, Blk X scope fun X' => DTs X' c ifs1 ((wip ((wip ρ [i, j]).set i (some (.dat (enc x)))) [j]).set j (some (.dat (enc1 y)))) (p1 x y))
    (he : ∀ x ∈ xs, ∀ y ∈ ys x, p1 x y = true → Blk X scope fun X' => DV X' c elt ((wip ((wip ρ [i, j]).set i (some (.dat (enc x)))) [j]).set j (some (.dat (enc1 y)))) (f x y))
    (hlt : i < c.n ∧ j < c.n := by exact ⟨Nat.le_of_ble_eq_true rfl, Nat.le_of_ble_eq_true rfl⟩) (hc : X.calm = true := by rfl) (hXN : X.N = N := by rfl) (hsc : X.env.scope = sc := by rfl) (ok : blkC N sc scope [(nm, i), (nm2, j)] = true := by decide +kernel) (hxi : N[i]? = some nm := by rfl) (hxj : N[j]? = some nm2 := by rfl)
    (hloc : ∀ C cl, (compEnvC scope cl C X.env).scope.names.lookup nm = some .local := by intro _ _; rfl) (hloc2 : ∀ C cl, (compEnvC scope cl C X.env).scope.names.lookup nm2 = some .local := by intro _ _; rfl)
    (hs : ∀ x, foldedSetIterable iter X.env x = pure x := by intro _; rfl) (hs1 : ∀ env x, foldedSetIterable iter1 env x = pure x := by intro _ _; rfl) :
    DC X c (.ListComp elt [⟨.Name nm px, iter, [], 0⟩, ⟨.Name nm2 py, iter1, ifs1, 0⟩] scope pos) ρ (fun ds => ds = xs.flatMap (fun x => ((ys x).filter (p1 x)).map (f x))) :=
  (o_lc2 (B := .one i) (B1 := .one j) (p := fun _ => true) [(nm, i), (nm2, j)] hc (hXN ▸ S.nd) (by rw [hXN, hsc]; exact blkOk_by ok) (fun k hk => by
      have : k = i := by simpa [Bnd.sl] using hk
      subst this; exact List.mem_cons_self) (fun k hk => by
      have : k = j := by simpa [Bnd.sl] using hk
      subst this; exact List.mem_cons_of_mem _ (List.mem_singleton.mpr rfl)) hlt.1 hlt.2 hi (fun _ _ => trivial) (fun _ _ _ _ => trivial)
    (fun s H C cl fp => pg_name (X := X.blk s H scope (compEnvC scope cl C X.env) fp) (hXN ▸ S.nd) (by show X.N[i]? = some nm; rw [hXN]; exact hxi) (.inl (hloc C cl)) (.inr (hloc C cl)))
    (fun s H C cl fp => pg_name (X := X.blk s H scope (compEnvC scope cl C X.env) fp) (hXN ▸ S.nd) (by show X.N[j]? = some nm2; rw [hXN]; exact hxj) (.inl (hloc2 C cl)) (.inr (hloc2 C cl)))
    (fun _ _ _ _ _ _ _ => ts_nil) (fun x hx _ => hi1 x hx) ht1 he (fun k => by
      rw [List.filter_eq_self.mpr (fun _ _ => rfl)]
      have h1 := flat_len (M := M) (fun x => (ys x).map (f x)) (xs.take k) fun x hx => by rw [List.length_map]; exact hM x (List.mem_of_mem_take hx)
      have h2 : (xs.take k).length ≤ xs.length := by rw [List.length_take]; omega
      have h3 := Nat.mul_le_mul_right M h2
      omega) hs hs1).imp fun ds q => by rw [q, List.filter_eq_self.mpr (fun _ _ => rfl)]
/-! orders of tuples -/
theorem lexLt_nat : ∀ (l m : List Nat), HT.lexLt (l.map fun n : Nat => (n : Int)) (m.map fun n : Nat => (n : Int)) = BT.ltN l m
  | [], [] => rfl
  | [], _ :: _ => rfl
  | _ :: _, [] => rfl
  | x :: xs, y :: ys => by
    rw [List.map_cons, List.map_cons, HT.lexLt_cons, lexLt_nat xs ys]
    show _ = (if x = y then BT.ltN xs ys else decide (x < y))
    by_cases h : x = y
    · subst h; rw [if_pos rfl, if_pos rfl]
    · rw [if_neg h, if_neg (by omega)]
      by_cases h2 : x < y
      · rw [decide_eq_true h2, decide_eq_true (by omega)]
      · rw [decide_eq_false h2, decide_eq_false (by omega)]
theorem tn_ints (l : List Nat) : tn l = .tuple ((l.map fun n : Nat => (n : Int)).map PyData.int) := by unfold tn; rw [List.map_map]; rfl
theorem ln_ints (l : List Nat) : ln l = .list ((l.map fun n : Nat => (n : Int)).map PyData.int) := by unfold ln; rw [List.map_map]; rfl
theorem v_ltT {l m : List Nat} (hu : X.A.units < cLine) (ha : DV X c a ρ (tn l)) (hb : DV X c b ρ (tn m)) : DV X c (.Compare a [.Lt] [b] pos) ρ (.bool (BT.ltN l m)) :=
  (e_cmp (op_ltT hu) ha hb (fun d1 d2 q1 q2 => by rw [q1, q2, tn_ints, tn_ints]; exact d_ltT)).is (by rw [lexLt_nat])
end
end DL

/-! ## text DL10 -/
set_option Elab.async false
set_option linter.all false
set_option maxRecDepth 100000
set_option maxHeartbeats 4000000
/-! DL10: enumerate of a tuple; sets of tuples; sorted tuples; repr. -/
namespace DL
open PySem PySem.Spec PyProof.Rows L2
/-- enumerate(v), v told by how it begins -/
theorem meets_enum1 {v : Value} {o : Obj} {H : Heap → Prop} (B : Begins v o H) :
    Meets (Builtin.«enumerate.__new__» ⟨[.type "enumerate", v], []⟩) (fun _ R s => H s.heap ∧
      R (.ok (.ret (.ref (s.heap.push o).objs.size))) { s with heap := (s.heap.push o).push { cls := .type "enumerate", data := .fields #[.none, .bool false, .ref s.heap.objs.size, rawInt 0, .none, .none] } }) := by
  refine .of_wp fun prog w A R s h => ?_
  obtain ⟨hp, gn, dr, tk, os⟩ := s
  obtain ⟨hH, hR⟩ := h
  have hsub := sub_enumerate
  have go : ∀ {A' : Around} {E : Value → Shared → Prop} {Q : Value → Shared → Prop}, Q (.ref hp.objs.size) ⟨hp.push o, gn, dr, tk, os⟩ → wpAny (model prog w) A' (pyIter v) Q E ⟨hp, gn, dr, tk, os⟩ :=
    fun q => B.iter prog w _ _ ⟨hp, gn, dr, tk, os⟩ _ hH q
  wp_walk using go
  refine wpAny_stack_any fun st => wpAny_pure ?_
  split
  · rename_i k _ _ _ _ _
    cases (k == Value.type "enumerate") <;> (wp_walk using go; exact ⟨_, rfl, hR⟩)
  · wp_walk using go
    exact ⟨_, rfl, hR⟩
theorem call_enum1 {prog : Program} {w : World} {A : Around} {E : Value → Shared → Prop} {s : Shared} {v : Value} {o : Obj} {H : Heap → Prop} {Q : Value → Shared → Prop} (B : Begins v o H) (h1 : H s.heap)
    (h : ∀ h', IsEnum h' (s.heap.objs.size + 1) s.heap.objs.size 0 .none → h'.get? s.heap.objs.size = some o →
      (∀ b o, s.heap.get? b = some o → h'.get? b = some o) → Q (.ref (s.heap.objs.size + 1)) { s with heap := h' }) :
    wpAny (model prog w) A (call (.type "enumerate") [v]) Q E s := by
  refine callType_new F.called_enumerate (by decide) (F.typeCall_enumerate_1 _) (F.newCall_enumerate_1 _) (fun obj => F.args_object_init_2 obj _) F.entry_enumerate_new
    (meets_enum1 B) ⟨h1, ?_⟩
  have hz : (s.heap.push o).objs.size = s.heap.objs.size + 1 := Heap.size_push ..
  show _ ∧ _
  rw [hz]
  have he : IsEnum ((s.heap.push o).push { cls := .type "enumerate", data := .fields #[.none, .bool false, .ref s.heap.objs.size, rawInt 0, .none, .none] }) (s.heap.objs.size + 1) s.heap.objs.size 0 .none := by
    have := Heap.get?_push_size (s.heap.push o) (o := { cls := .type "enumerate", data := .fields #[.none, .bool false, .ref s.heap.objs.size, rawInt 0, .none, .none] }) rfl
    rw [hz] at this; exact this
  refine ⟨⟨_, he, rfl⟩, h _ he (Heap.get?_push_of_some _ (Heap.get?_push_size _ B.free)) fun b o x => Heap.get?_push_of_some _ (Heap.get?_push_of_some _ x)⟩
/-- the tuple at a, each item in a new pair with its number -/
def Iet (K : PySem.W.Frag) (a : Addr) : It :=
  ⟨fun i H => ∃ (xs : List V) (x : V), SqT K H a xs ∧ xs[i]? = some x, fun i H v H' => ∃ T x, v = .ref T ∧ H T = none ∧ H' = upd H T (.tup [.int (i : Nat), x]) ∧ ∀ xs, SqT K H a xs → xs[i]? = some x, fun i H => ∃ xs : List V, SqT K H a xs ∧ xs.length = i⟩
theorem turn_enumT {P : Program} {w : World} {K : PySem.W.Frag} {elts : List Expr} {kk : Nat} {tpos : Pos} (a e it : Addr) (ha : a ≠ it) (hae : e ≠ a) :
    Turn P w K (.Tuple elts kk tpos) (Iet K a) [e, it] e (fun i h => (∃ old, IsEnum h e it ((i : Nat) : Int) old) ∧ h.IsTupleIter it a i ∧ e ≠ it) where
  mem := by simp
  obj := fun i h st b hb => by
    obtain ⟨⟨old, he⟩, ⟨o, ho, hc, hd⟩, _⟩ := st
    have e' : b = e ∨ b = it := by simpa using hb
    rcases e' with rfl | rfl
    · exact ⟨_, he, fun v q => nomatch q⟩
    · exact ⟨o, ho, fun v q => by rw [hd] at q; cases q⟩
  keep := fun i h h' st k => let ⟨⟨old, he⟩, hi, hne⟩ := st; ⟨⟨old, k e (by simp) _ he⟩, hi.at fun o q => k it (by simp) o q, hne⟩
  item := by
    intro X hP hw hK hc i pins s σ H E I hf st hg
    subst hP hw hK
    obtain ⟨⟨old, he⟩, hit, hne⟩ := st
    obtain ⟨xs, x, hq, hx⟩ := hg
    obtain ⟨its, rv, p, hz⟩ := I.tuple hq
    obtain ⟨u, hu, ru⟩ := rv.get hx
    have hel : e < s.heap.objs.size := Heap.lt_size he
    have hil : it < s.heap.objs.size := by obtain ⟨_, q, _⟩ := hit; exact Heap.lt_size q
    have hlt : i < its.toArray.size := by
      have := (List.getElem?_eq_some_iff.mp hu).1
      simpa using this
    have hef : e ∉ [it, a] := by simp only [List.mem_cons, List.not_mem_nil, or_false, not_or]; exact ⟨hne, hae⟩
    refine wpAny_pyNext_enum_itemD (Draws.tuple (A := X.A.in1) (I.ok.hd hc) it a ha its.toArray) he (And.intro hit p) hlt hne hef fun y h' tk hy ho hs' hT hsz hk => ?_
    obtain ⟨hit', -⟩ := hs'
    have hyu : y = u := by
      have h2 : its.toArray[i]? = some y := hy
      rw [List.getElem?_toArray, hu] at h2
      exact (Option.some.inj h2).symm
    subst hyu
    refine ⟨_, rfl, wpAny_letOwnedTupleGo_enum (s := { s with heap := h', toks := tk + 1 }) ho fun h'' he' sb => ?_⟩
    have hT2 : h''.get? s.heap.objs.size = some { cls := .type "tuple", data := .seq #[.int i tk, y] } := (sb.2 _ (Nat.ne_of_gt hel)).trans hT
    have new : ObjOk X.prog X.w (upd H s.heap.objs.size (.tup [.int (i : Nat), x])) h'' s.heap.objs.size (.tup [.int (i : Nat), x]) :=
      ⟨by show 2 ≤ sizeLine; decide, [.int i tk, y], .cons ⟨_, rfl⟩ (.cons ru .nil), ⟨_, hT2, rfl, _, rfl⟩⟩
    have I1 : Inv X pins σ (upd H s.heap.objs.size (.tup [.int (i : Nat), x])) { s with heap := h'', toks := tk + 1 } :=
      I.turnedNew (ch := [e, it]) (fun b ob hb q => (sb.2 b (fun z => hb (by simp [z]))).trans (hk b ob (fun z => hb (by simp [z])) (fun z => hb (by simp [z])) q)) hf (Nat.le_refl _) new
    refine ⟨.ref s.heap.objs.size, _, I1, rfl, ⟨_, x, rfl, I.hok.fresh (Nat.le_refl _), rfl, fun ys hy => by rw [I.tuple_inj hy hq]; exact hx⟩, ⟨⟨y, ?_⟩, hit'.at fun o q => (sb.2 it (Ne.symm hne)).trans q, hne⟩, fun b hb => ?_⟩
    · have e1 : ((i + 1 : Nat) : Int) = (i : Int) + 1 := by omega
      rw [e1]; exact he'
    · have hb' : b < s.heap.objs.size := by
        have e' : b = e ∨ b = it := by simpa using hb
        rcases e' with rfl | rfl
        · exact hel
        · exact hil
      rw [upd_ne (Nat.ne_of_lt hb')]
      exact (hf b hb).1
  done := by
    intro X hP hw hK hc i pins s σ H E I hf st hg
    subst hP hw hK
    obtain ⟨⟨old, he⟩, hit, hne⟩ := st
    obtain ⟨xs, hq, hx⟩ := hg
    obtain ⟨its, rv, p, hz⟩ := I.tuple hq
    obtain ⟨f0, f1, f2, f3, f4, f5⟩ := hf it (by simp)
    have hl := rv.length
    have e0 : i = its.toArray.size := by simp; omega
    subst e0
    exact wpAny_pyNext_enum_endD (Draws.tuple (A := X.A.in1) (I.ok.hd hc) it a ha its.toArray) he (And.intro hit p) fun h' eb => ⟨rfl, I.turned (t' := s.toks) (fun b o hb q => eb b o hb q) f0 f1 f3 f4 f5⟩
  self := fun A i s Q E st h => let ⟨⟨_, he⟩, _⟩ := st; wpAny_pyIter_enum he h
def iEnumT (K : PySem.W.Frag) (ta : TA) : TI := fun σ H R => ta σ H fun vs H1 => ∃ a xs, vs = [.ref a] ∧ SqT K H1 a xs ∧ R (Iet K a) H1
theorem pi_enumT {X : Cx} {e : Expr} {ta : TA} {p pos tpos : Pos} {elts : List Expr} {kk : Nat} (hg : Gl X "enumerate") (hm : X.mg "enumerate" = none) (ha : PA X [e] ta) (hs : starEach [e] X.env = (false, eval e X.env) :: starEach [] X.env := by rfl) :
    PI X (.Tuple elts kk tpos) (.Call (.Name "enumerate" p) [e] [] pos) (iEnumT X.K ta) := by
  refine ⟨fun pins s σ H R I h => ?_⟩
  refine Call_ (ld_blt I hg hm boot_enumerate (PyProof.Rows.callWith_type1 (thn (ha.run pos pins s σ H _ I h) fun us s1 ⟨vs, H1, I1, r1, q1⟩ => ?_) hs rfl))
  obtain ⟨a, xs, ex, hq, q⟩ := q1
  subst ex
  cases r1 with
  | cons r rr =>
    cases rr
    cases r
    obtain ⟨its, rv, p', hz⟩ := I1.tuple hq
    have p'' : s1.heap.IsTuple a its.toArray := p'
    have hlt : a < s1.heap.objs.size := by obtain ⟨_, q, _⟩ := p''; exact Heap.lt_size q
    refine call_enum1 (begins_tuple a its.toArray) p'' fun h' he hit hk => wpAny_pyIter_enum he ?_
    have I2 : Inv X pins σ H1 { s1 with heap := h' } := I1.kept (t' := s1.toks) hk
    refine ⟨s1.heap.objs.size + 1, [s1.heap.objs.size + 1, s1.heap.objs.size], _, _, H1, rfl, I2, turn_enumT a (s1.heap.objs.size + 1) s1.heap.objs.size (Nat.ne_of_lt hlt) (Nat.ne_of_gt (Nat.lt_succ_of_lt hlt)), ⟨⟨.none, he⟩, ⟨_, hit, rfl, rfl⟩, Nat.succ_ne_self _⟩, fun b hb => ?_, q⟩
    have e' : b = s1.heap.objs.size + 1 ∨ b = s1.heap.objs.size := by simpa using hb
    have hle : s1.heap.objs.size ≤ b := by
      rcases e' with z | z
      · rw [z]; exact Nat.le_add_right _ _
      · rw [z]; exact Nat.le_refl _
    exact I1.fpOk hle (I1.hok.fresh hle)
section
variable {X : Cx} {c : Ctx} {ρ : Rho} {pos : Pos} {e : Expr}
theorem walks_enum {K : PySem.W.Frag} {i j : Nat} {p : Addr} {xs : List V} {ds : List PyData} {G1 : Hp} {o : Obj} (h : G1 p = some (.frz o (.tup xs))) (a1 : AtAll G1 xs ds) :
    Walks c (.two i j) (Iet K p) (ds.zipIdx.map fun d => .tuple [dn d.2, d.1]) G1 where
  go := fun G2 H2 k d e1 e2 hd => by
    rw [List.getElem?_map, List.getElem?_zipIdx] at hd
    cases hz : ds[k]? with
    | none => rw [hz] at hd; cases hd
    | some z =>
      obtain ⟨v, k1, _⟩ := a1.get hz
      exact ⟨xs, v, .inl (.inr ⟨o, e2 _ _ (e1 _ _ h)⟩), k1⟩
  yld := fun G2 H2 k d x H' e1 e2 hd y => by
    rw [List.getElem?_map, List.getElem?_zipIdx] at hd
    cases hz : ds[k]? with
    | none => rw [hz] at hd; cases hd
    | some z =>
      rw [hz] at hd
      cases hd
      obtain ⟨v, k1, k1'⟩ := a1.get hz
      obtain ⟨T, u1, rfl, nT, rfl, f1⟩ := y
      have g1 := f1 xs (.inl (.inr ⟨o, e2 _ _ (e1 _ _ h)⟩))
      rw [k1] at g1
      cases g1
      have en : Ex G2 (upd G2 T (.tup [.int (k : Nat), v])) := Ex.new (e2.none nT)
      refine ⟨upd G2 T (.tup [.int (k : Nat), v]), Grow.new e2 nT, .tup upd_same (.cons ?_ (.cons ((k1'.mono e1).mono en) .nil))⟩
      rw [Nat.zero_add]
      exact .int _
  stop := fun G2 H2 e1 e2 => ⟨xs, .inl (.inr ⟨o, e2 _ _ (e1 _ _ h)⟩), by rw [List.length_map, List.length_zipIdx, a1.length]⟩
theorem i_enum {i j : Nat} {p tpos : Pos} {elts : List Expr} {kk : Nat} {ds : List PyData} (h : DV X c e ρ (.tuple ds)) (hm : X.mg "enumerate" = none) (hg : Gl X "enumerate" := by rfl)
    (hs : starEach [e] X.env = (false, eval e X.env) :: starEach [] X.env := by rfl) :
    DI X c (.two i j) (.Tuple elts kk tpos) (.Call (.Name "enumerate" p) [e] [] pos) ρ (fun as => as = ds.zipIdx.map fun d => .tuple [dn d.2, d.1]) := fun σ H G S =>
  tWI_of (pi_enumT hg hm (pa_cons peW pa_nil hs) hs) (tW_mono (h σ H G S) fun v H1 ⟨d, G1, q, g, a⟩ => by
    subst q
    cases a with
    | tup h1 hd h2 => exact ⟨_, _, rfl, .inl (.inr ⟨_, g.e _ _ h1⟩), _, G1, rfl, g, walks_enum h1 h2⟩)
end

/-! ### sorted(set(..)) of tuples -/
/-- the tuples ascending, each once -/
def uq (l : List (List Nat)) : List (List Nat) := BT.srtT l.eraseDups
theorem mem_uq {l : List (List Nat)} {x : List Nat} : x ∈ uq l ↔ x ∈ l := by
  unfold uq
  rw [(BT.srtT_perm _).mem_iff, List.mem_eraseDups]
theorem nodup_eraseDups : ∀ l : List (List Nat), l.eraseDups.Nodup := by
  intro l
  have key : ∀ n (l : List (List Nat)), l.length ≤ n → l.eraseDups.Nodup := by
    intro n
    induction n with
    | zero =>
      intro l hl
      have : l = [] := List.eq_nil_of_length_eq_zero (by omega)
      subst this; simp
    | succ n ih =>
      intro l hl
      cases l with
      | nil => simp
      | cons a r =>
        rw [List.eraseDups_cons]
        refine List.nodup_cons.mpr ⟨?_, ih _ ?_⟩
        · rw [List.mem_eraseDups]
          simp
        · have := List.length_filter_le (fun b => !b == a) r
          rw [List.length_cons] at hl
          omega
  exact key _ l (Nat.le_refl _)
theorem uq_asc (l : List (List Nat)) : BT.AscT (uq l) := BT.srtT_asc (nodup_eraseDups l)
abbrev iz (l : List Nat) : List Int := l.map fun n : Nat => (n : Int)
theorem iz_inj {l m : List Nat} (h : iz l = iz m) : l = m := by
  have := congrArg (List.map Int.toNat) h
  rw [List.map_map, List.map_map] at this
  have e : ∀ l : List Nat, l.map (Int.toNat ∘ fun n : Nat => (n : Int)) = l := fun l => by
    conv => rhs; rw [← List.map_id l]
    apply List.map_congr_left
    intro i _
    simp
  rw [e, e] at this
  exact this
theorem iz_bd {l : List Nat} (h : ∀ k ∈ l, k < 64) : TS.Bd 64 (iz l) := fun m hm => by
  obtain ⟨n, hn, e⟩ := List.mem_map.mp hm
  have := h n hn
  have e' : m = (n : Int) := e.symm
  omega
/-- the code tells the order -/
theorem ltN_of_code : ∀ {l m : List Nat}, l.length = m.length → (∀ k ∈ l, k < 64) → (∀ k ∈ m, k < 64) → TS.code 64 (iz l) ≤ TS.code 64 (iz m) → l ≠ m → BT.ltN l m = true
  | [], [], _, _, _, _, h => absurd rfl h
  | [], _ :: _, h, _, _, _, _ => by simp at h
  | _ :: _, [], h, _, _, _, _ => by simp at h
  | x :: l, y :: m, h, h1, h2, h3, h4 => by
    have hl : l.length = m.length := by simpa using h
    have hl' : (iz l).length = (iz m).length := by rw [List.length_map, List.length_map, hl]
    have b1 : TS.Bd 64 (iz l) := iz_bd fun k hk => h1 k (List.mem_cons_of_mem _ hk)
    have b2 : TS.Bd 64 (iz m) := iz_bd fun k hk => h2 k (List.mem_cons_of_mem _ hk)
    show (if x = y then BT.ltN l m else decide (x < y)) = true
    by_cases e : x = y
    · subst e
      rw [if_pos rfl]
      refine ltN_of_code hl (fun k hk => h1 k (List.mem_cons_of_mem _ hk)) (fun k hk => h2 k (List.mem_cons_of_mem _ hk)) ?_ fun q => h4 (by rw [q])
      have h3 : TS.code 64 ((x : Int) :: iz l) ≤ TS.code 64 ((x : Int) :: iz m) := h3
      by_cases q : TS.code 64 (iz m) < TS.code 64 (iz l)
      · have := (TS.code_same (d := (x : Int)) hl'.symm).mpr q
        omega
      · omega
    · rw [if_neg e]
      by_cases q : x < y
      · simpa using q
      · exfalso
        have h3 : TS.code 64 ((x : Int) :: iz l) ≤ TS.code 64 ((y : Int) :: iz m) := h3
        have : TS.code 64 ((y : Int) :: iz m) < TS.code 64 ((x : Int) :: iz l) := TS.code_lt hl'.symm b2 b1 (by omega)
        omega
theorem At.tupI {K : PySem.W.Frag} {G H : Hp} (e : Ex G H) {a : Addr} {m : List Nat} (h : At G (.ref a) (tn m)) : SqT K H a ((iz m).map V.int) := by
  rw [tn_ints] at h
  obtain ⟨p, o, xs, hv, _, _, h3, h4⟩ := At.sqT (K := K) e h
  cases hv
  rw [h4.ints] at h3
  exact h3
theorem tups_of (K : PySem.W.Frag) {G : Hp} : ∀ {xs : List V} {l : List (List Nat)}, AtAll G xs (l.map tn) → ∃ ks : List (Addr × List Nat), xs = ks.map (fun p => V.ref p.1) ∧ ks.map (·.2) = l ∧ ∀ p ∈ ks, At G (.ref p.1) (tn p.2)
  | _, [], h => by cases h; exact ⟨[], rfl, rfl, fun p hp => by cases hp⟩
  | _, m :: l, h => by
    rw [List.map_cons] at h
    cases h with
    | cons a t =>
      obtain ⟨ks, e1, e2, e3⟩ := tups_of K t
      obtain ⟨b, _, _, rfl, _, _, _, _⟩ := At.sqT (K := K) (Ex.refl G) a
      refine ⟨(b, m) :: ks, by rw [e1]; rfl, by rw [List.map_cons, e2], fun p hp => ?_⟩
      rcases List.mem_cons.mp hp with q | q
      · rw [q]; exact a
      · exact e3 p q
/-- what the set keeps -/
theorem keeps_of {G : Hp} {ks : List (Addr × List Nat)} {L : List (Addr × List Int)} (h : ∀ p ∈ ks, At G (.ref p.1) (tn p.2)) (s : ∀ p ∈ L, p ∈ ks.map fun q => (q.1, iz q.2)) : ∃ M : List (Addr × List Nat), L = M.map (fun q => (q.1, iz q.2)) ∧ ∀ p ∈ M, p ∈ ks := by
  induction L with
  | nil => exact ⟨[], rfl, fun p hp => by cases hp⟩
  | cons q L ih =>
    obtain ⟨M, e1, e2⟩ := ih fun p hp => s p (List.mem_cons_of_mem _ hp)
    obtain ⟨r, hr, er⟩ := List.mem_map.mp (s q List.mem_cons_self)
    refine ⟨r :: M, by rw [List.map_cons, e1, er], fun p hp => ?_⟩
    rcases List.mem_cons.mp hp with z | z
    · rw [z]; exact hr
    · exact e2 p z
/-- a list of one item at most, sorted in its place -/
theorem sort_few {prog : Program} {w : World} {A : Around} {E : Value → Shared → Prop} {s : Shared} {a : Addr} {vs : List Value} {n : Nat} {Q : Value → Shared → Prop} (ho : s.heap.get? a = some (seqObj "list" vs.toArray n)) (few : vs.length ≤ 1)
    (h : ∀ out : Array Value, out.toList.Perm vs → Q .none { s with heap := sortedHeap s.heap a vs out }) : wpAny (model prog w) A (call (.builtin "list.sort") [.ref a]) Q E s :=
  wpAny_call_entry slot_list_sort ⟨_, ho, rfl⟩ entry_list_sort (SK.plain_sort (r := fun _ => 0) ho (by omega) (fun h2 Q hQ => absurd h2 (by omega)) fun ps out h1 h2 h3 => ⟨_, rfl, h out (TS.out_rank (r := fun _ => 0) h1 h2 h3).1⟩) (args_list_sort _)
/-- sorted(set) of one tuple at most -/
def rFewT (P : Program) (w : World) (K : PySem.W.Frag) : List V → Hp → VK → Prop := fun vs H Q => ∃ (a : Addr) (L : List (Addr × List Int)), vs = [V.ref a] ∧ H a = some (SetTO P w a L) ∧ (∀ p ∈ L, SqT K H p.1 (p.2.map V.int)) ∧ (∀ p ∈ L, p.2 = []) ∧
  ∀ p, H p = none → L.length ≤ 1 → Q (.ref p) (upd H p (.lst (L.map fun q => V.ref q.1)))
theorem cr_fewT {X : Cx} (hc : X.calm = true) : CallR X (.builtin "sorted") (rFewT X.prog X.w X.K) := by
  intro pins s σ H vs us Q I r h
  obtain ⟨a, L, rfl, ha, hk, emp, q⟩ := h
  obtain ⟨es, ep, t, R⟩ := SetT0.full (I.hok a _ ha).1 fun p hp => I.isT (hk p hp)
  have few : L.length ≤ 1 := by
    have nd := R.nd
    match L, emp, nd with
    | [], _, _ => simp
    | [_], _, _ => simp
    | x :: y :: L, emp, nd =>
      exfalso
      rw [List.map_cons, List.map_cons, emp x (by simp), emp y (by simp)] at nd
      simp at nd
  rw [Vals.ref1 r]
  obtain ⟨o, ho, hex, hd⟩ := R.ob
  have hr : es.toList.map (·.2) = L.map fun q => Value.ref q.1 := by rw [R.rows]; unfold rowsOf; rw [List.map_map]; rfl
  have hsz := R.size
  refine Calls.call_function_entry kind_sorted plain_sorted entry_sorted (args_sorted1 _) ?_
  show wpAny _ _ (checkCount "sorted" 1 1 _ >>= _) _ _ _
  refine wpAny_bind (m := checkCount "sorted" 1 1 _) (wpAny_pure (wpAny_bind (collect_set (A := X.A.in1) (I.ok.hd hc) ⟨o, ho, hex.1, hd⟩ R.fits (by unfold scanBound; omega) R.tab.ris R.led fun s1 vs k1 hz g1 o1 pm => ?_)))
  rw [hr] at pm
  have hvs : vs = L.map fun q => Value.ref q.1 := by
    cases L with
    | nil => exact List.perm_nil.mp pm
    | cons x L =>
      have : L = [] := List.eq_nil_of_length_eq_zero (by rw [List.length_cons] at few; omega)
      subst this
      exact List.perm_singleton.mp pm
  subst hvs
  have hl1 : (L.map fun q => Value.ref q.1).length ≤ 1 := by rw [List.length_map]; exact few
  refine wpAny_bind (wpAny_newList ?_ (by rw [sizeLine_eq]; omega))
  have hoL : (s1.heap.push (seqObj "list" (L.map fun q => Value.ref q.1).toArray 0)).get? s1.heap.objs.size = some (seqObj "list" (L.map fun q => Value.ref q.1).toArray 0) := Heap.get?_push_size _ rfl
  refine wpAny_bind (wpAny_holding (sort_few (s := { s1 with heap := s1.heap.push (seqObj "list" (L.map fun q => Value.ref q.1).toArray 0) }) hoL hl1 fun out po => ?_))
  have hout : out.toList = L.map fun q => Value.ref q.1 := by
    cases L with
    | nil => exact List.perm_nil.mp po
    | cons x L =>
      have : L = [] := List.eq_nil_of_length_eq_zero (by rw [List.length_cons] at few; omega)
      subst this
      exact List.perm_singleton.mp po
  obtain ⟨c, hc2⟩ := sortedHeap_at (vs := L.map fun q => Value.ref q.1) (out := out) hoL
  have hn : H s1.heap.objs.size = none := I.hok.fresh hz
  have hlen : (L.map fun q => V.ref q.1).length ≤ sizeLine := by rw [List.length_map, sizeLine_eq]; omega
  have hv : Vals (L.map fun q => V.ref q.1) out.toList := by rw [hout]; exact vals_of_refs L
  have keep : ∀ b u, s.heap.get? b = some u → (sortedHeap (s1.heap.push (seqObj "list" (L.map fun q => Value.ref q.1).toArray 0)) s1.heap.objs.size (L.map fun q => Value.ref q.1) out).get? b = some u := fun b u e => by
    have q := k1 b u e
    have hlt := Heap.lt_size q
    rw [sortedHeap_old (Nat.ne_of_lt hlt) (by rw [size_push']; exact Nat.lt_succ_of_lt hlt)]
    exact Heap.get?_push_of_some _ q
  have J : Inv X pins σ (upd H s1.heap.objs.size (.lst (L.map fun q => V.ref q.1))) { s with heap := sortedHeap (s1.heap.push (seqObj "list" (L.map fun q => Value.ref q.1).toArray 0)) s1.heap.objs.size (L.map fun q => Value.ref q.1) out, gens := s1.gens, drawn := s1.drawn, toks := s1.toks } :=
    I.call (ch := []) (Un.laid keep hz hn) (I.hok.laid keep hz ⟨hlen, out.toList, c, hv, hc2⟩) (by rw [g1]; exact I.bare) (fun _ z => nomatch z)
  refine wpAny_pure ⟨_, rfl, ?_⟩
  cases s1
  cases s
  cases o1
  exact ⟨.ref _, _, J, rfl, q _ hn few⟩
section
variable {X : Cx} {c : Ctx} {ρ : Rho} {pos : Pos} {e : Expr}
theorem o_told {p p2 pos2 : Pos} {l : List (List Nat)} {d : Nat} (hc : X.calm = true) (hu : X.A.units + 64 < cLine) (hm : X.mg "sorted" = none) (hm2 : X.mg "set" = none) (h : DV X c e ρ (ltn l)) (few : l.length < 64) (hd : ∀ x ∈ l, x.length = d) (hb : ∀ x ∈ l, ∀ k ∈ x, k < 64) (hg : Gl X "sorted" := by rfl) (hg2 : Gl X "set" := by rfl)
    (na : starEach [e] X.env = (false, eval e X.env) :: starEach [] X.env := by rfl) (na2 : starEach [.Call (.Name "set" p2) [e] [] pos2] X.env = (false, eval (.Call (.Name "set" p2) [e] [] pos2) X.env) :: starEach [] X.env := by rfl) (hpl : (backTo pos2 (starEach [] X.env)).any (·.1) = false := by rfl) (hpl2 : (backTo pos (starEach [] X.env)).any (·.1) = false := by rfl) :
    DO X c (.Call (.Name "sorted" p) [.Call (.Name "set" p2) [e] [] pos2] [] pos) ρ (fun ds => ds = (uq l).map tn) := fun σ H G S => by
  have build : ∀ {H1 G1 : Hp} {v : V}, Grow c.b G H G1 H1 → At G1 v (ltn l) → ∃ (q : Addr) (ks : List (Addr × List Nat)), v = .ref q ∧ SqL X.K H1 q (ks.map fun p => V.ref p.1) ∧ ks.map (·.2) = l ∧ ∀ p ∈ ks, At G1 (.ref p.1) (tn p.2) := fun g a => by
    obtain ⟨q, xs, rfl, _, h3, h4⟩ := At.sqL (K := X.K) g.e a
    obtain ⟨ks, e1, e2, e3⟩ := tups_of X.K h4
    exact ⟨q, ks, rfl, e1 ▸ h3, e2, e3⟩
  have setp : ∀ {H1 G1 : Hp} {ks : List (Addr × List Nat)}, Ex G1 H1 → ks.map (·.2) = l → (∀ p ∈ ks, At G1 (.ref p.1) (tn p.2)) → ∀ (r : Addr) (L : List (Addr × List Int)), (∀ p ∈ L, p ∈ ks.map fun q => (q.1, iz q.2)) → (∀ p ∈ ks.map (fun q => (q.1, iz q.2)), p.2 ∈ L.map (·.2)) →
      ∃ M : List (Addr × List Nat), L = M.map (fun q => (q.1, iz q.2)) ∧ (∀ p ∈ M, p ∈ ks) ∧ (∀ x, x ∈ M.map (·.2) ↔ x ∈ l) := fun {H1 G1 ks} hex e2 e3 r L s1 s2 => by
    obtain ⟨M, rfl, hM⟩ := keeps_of e3 s1
    refine ⟨M, rfl, hM, fun x => ⟨fun hx => ?_, fun hx => ?_⟩⟩
    · obtain ⟨p, hp, rfl⟩ := List.mem_map.mp hx
      rw [← e2]
      exact List.mem_map.mpr ⟨p, hM p hp, rfl⟩
    · rw [← e2] at hx
      obtain ⟨p, hp, rfl⟩ := List.mem_map.mp hx
      have := s2 (p.1, iz p.2) (List.mem_map.mpr ⟨p, hp, rfl⟩)
      rw [List.map_map] at this
      obtain ⟨r, hr, er⟩ := List.mem_map.mp this
      have : r.2 = p.2 := iz_inj er
      exact List.mem_map.mpr ⟨r, hr, this⟩
  have out : ∀ {H1 G1 : Hp} {ks M : List (Addr × List Nat)} {r t : Addr} {u : HO}, Grow c.b G H G1 H1 → (∀ p ∈ ks, At G1 (.ref p.1) (tn p.2)) → (∀ p ∈ M, p ∈ ks) → M.map (·.2) = uq l → H1 r = none → upd H1 r u t = none →
      ∃ ds G' p vs, ds = (uq l).map tn ∧ Grow c.b G H G' (upd (upd H1 r u) t (.lst ((M.map fun q => (q.1, iz q.2)).map fun q => V.ref q.1))) ∧ V.ref t = .ref p ∧ H p = none ∧ (upd (upd H1 r u) t (.lst ((M.map fun q => (q.1, iz q.2)).map fun q => V.ref q.1))) p = some (.lst vs) ∧ G' p = none ∧ AtAll G' vs ds := fun {H1 G1 ks M r t u} g h3 hM huq hr ht => by
    have g1 : Grow c.b G1 H1 G1 (upd H1 r u) := Grow.hid g.e hr
    have g2 : Grow c.b G1 (upd H1 r u) G1 (upd (upd H1 r u) t (.lst ((M.map fun q => (q.1, iz q.2)).map fun q => V.ref q.1))) := Grow.hid g1.e ht
    have gg := g.trans S.bag (g1.trans (g.bg S.bag) g2)
    have ht1 : H1 t = none := by
      by_cases e : t = r
      · rw [e]; exact hr
      · rw [upd_ne e] at ht; exact ht
    refine ⟨_, G1, t, _, rfl, gg, rfl, g.none S.bag ht1, upd_same, g.e.none ht1, ?_⟩
    rw [← huq, List.map_map, List.map_map]
    clear huq gg g2
    induction M with
    | nil => exact .nil
    | cons q M ih => exact .cons (h3 q (hM q List.mem_cons_self)) (ih fun p hp => hM p (List.mem_cons_of_mem _ hp))
  by_cases hd0 : d = 0
  · refine tW_of (pe_callB (cr_fewT hc) hg hm (by decide +kernel) (pa_cons (pe_callTy (cr_setOfT hc hu) hg2 hm2 (by decide +kernel) (pa_cons peW pa_nil na) (by decide) (by decide) na hpl) pa_nil na2) (by decide) (by decide) na2 hpl2) (tW_mono (h σ H G S) fun v H1 ⟨d', G1, q, g, a⟩ => ?_)
    subst q
    obtain ⟨q, ks, rfl, h1, h2, h3⟩ := build g a
    refine ⟨q, ks.map fun p => (p.1, iz p.2), rfl, by rw [List.map_map]; exact h1, fun p hp => ?_, by rw [List.length_map, ← List.length_map (f := (·.2)), h2]; exact few, fun r L hr s1 s2 => ?_⟩
    · obtain ⟨p', hp', rfl⟩ := List.mem_map.mp hp
      exact At.tupI g.e (h3 p' hp')
    · obtain ⟨M, rfl, hM, hx⟩ := setp g.e h2 h3 r L s1 s2
      have hnone : ∀ p ∈ M, p.2 = [] := fun p hp => List.eq_nil_of_length_eq_zero (by rw [hd _ ((hx _).mp (List.mem_map.mpr ⟨p, hp, rfl⟩)), hd0])
      have hex : Ex G1 (upd H1 r (SetTO X.prog X.w r (M.map fun q => (q.1, iz q.2)))) := g.e.trans (Ex.new hr)
      refine ⟨r, _, rfl, upd_same, fun p hp => ?_, fun p hp => ?_, fun t ht hf => ?_⟩
      · obtain ⟨p', hp', rfl⟩ := List.mem_map.mp hp
        exact At.tupI hex (h3 p' (hM p' hp'))
      · obtain ⟨p', hp', rfl⟩ := List.mem_map.mp hp
        show iz p'.2 = []
        rw [hnone p' hp']; rfl
      · have huq : M.map (·.2) = uq l := BT.ascT_ext (by
          rw [List.length_map] at hf
          match M, hf with
          | [], _ => exact .nil
          | [_], _ => exact List.pairwise_singleton _ _
          | _ :: _ :: _, hf => simp at hf) (uq_asc l) fun x => by rw [hx x, mem_uq]
        exact out g h3 hM huq hr ht
  · refine tW_of (pe_callB (cr_sortedT hc) hg hm (by decide +kernel) (pa_cons (pe_callTy (cr_setOfT hc hu) hg2 hm2 (by decide +kernel) (pa_cons peW pa_nil na) (by decide) (by decide) na hpl) pa_nil na2) (by decide) (by decide) na2 hpl2) (tW_mono (h σ H G S) fun v H1 ⟨d', G1, q, g, a⟩ => ?_)
    subst q
    obtain ⟨q, ks, rfl, h1, h2, h3⟩ := build g a
    refine ⟨q, ks.map fun p => (p.1, iz p.2), rfl, by rw [List.map_map]; exact h1, fun p hp => ?_, by rw [List.length_map, ← List.length_map (f := (·.2)), h2]; exact few, fun r L hr s1 s2 => ?_⟩
    · obtain ⟨p', hp', rfl⟩ := List.mem_map.mp hp
      exact At.tupI g.e (h3 p' hp')
    · obtain ⟨M, rfl, hM, hx⟩ := setp g.e h2 h3 r L s1 s2
      have hin : ∀ p ∈ M, p.2 ∈ l := fun p hp => (hx _).mp (List.mem_map.mpr ⟨p, hp, rfl⟩)
      have hex : Ex G1 (upd H1 r (SetTO X.prog X.w r (M.map fun q => (q.1, iz q.2)))) := g.e.trans (Ex.new hr)
      refine ⟨r, _, d, 64, rfl, upd_same, fun p hp => ?_, by omega, fun p hp => ?_, fun L' t pm nd hf pw ht => ?_⟩
      · obtain ⟨p', hp', rfl⟩ := List.mem_map.mp hp
        exact At.tupI hex (h3 p' (hM p' hp'))
      · obtain ⟨p', hp', rfl⟩ := List.mem_map.mp hp
        exact ⟨by show (iz p'.2).length = d; rw [List.length_map]; exact hd _ (hin p' hp'), iz_bd (hb _ (hin p' hp'))⟩
      · obtain ⟨M', rfl, hM'⟩ := keeps_of (L := L') h3 fun p hp => s1 p (pm.mem_iff.mp hp)
        have hx' : ∀ x, x ∈ M'.map (·.2) ↔ x ∈ l := fun x => by
          rw [← hx x]
          have p2 := pm.map (·.2)
          rw [List.map_map, List.map_map] at p2
          have : ∀ N : List (Addr × List Nat), x ∈ N.map (·.2) ↔ iz x ∈ N.map ((fun q : Addr × List Int => q.2) ∘ fun q : Addr × List Nat => (q.1, iz q.2)) := fun N => by
            constructor
            · intro hx
              obtain ⟨p, hp, rfl⟩ := List.mem_map.mp hx
              exact List.mem_map.mpr ⟨p, hp, rfl⟩
            · intro hx
              obtain ⟨p, hp, e⟩ := List.mem_map.mp hx
              exact List.mem_map.mpr ⟨p, hp, iz_inj e⟩
          rw [this, this, p2.mem_iff]
        have huq : M'.map (·.2) = uq l := BT.ascT_ext (by
          rw [List.pairwise_map] at pw
          rw [List.map_map, List.Nodup, List.pairwise_map] at nd
          rw [BT.AscT, List.pairwise_map]
          refine (pw.and nd).imp_of_mem fun {a b} ha hb' q => ?_
          have ia : a.2 ∈ l := (hx' _).mp (List.mem_map.mpr ⟨a, ha, rfl⟩)
          have ib : b.2 ∈ l := (hx' _).mp (List.mem_map.mpr ⟨b, hb', rfl⟩)
          exact ltN_of_code (by rw [hd _ ia, hd _ ib]) (hb _ ia) (hb _ ib) q.1 fun e => q.2 (by show iz a.2 = iz b.2; rw [e])) (uq_asc l) fun x => by rw [hx' x, mem_uq]
        exact out g h3 hM' huq hr ht
end
end DL

/-! ## text DL11 -/
set_option Elab.async false
set_option linter.all false
set_option maxRecDepth 100000
set_option maxHeartbeats 4000000
/-! DL11: sorted lists of tuples; texts. -/
namespace DL
open PySem PySem.Spec PyProof.Rows L2
theorem dataLt_tn : ∀ l m : List Nat, PySem.W.dataLt (tn l) (tn m) = BT.ltN l m := by
  intro l m
  rw [tn_ints, tn_ints, PySem.W.dataLt_tuple]
  show PySem.W.rowLt _ _ = _
  rw [PySem.W.dataLt_ints]
  induction l generalizing m with
  | nil => cases m with
    | nil => rfl
    | cons y m => simp [BT.ltN]
  | cons x l ih => cases m with
    | nil => simp [BT.ltN]
    | cons y m =>
      have := ih m
      rw [Bool.eq_iff_iff, decide_eq_true_iff] at this ⊢
      rw [List.map_cons, List.map_cons, List.cons_lt_cons_iff]
      unfold BT.ltN
      by_cases e : x = y
      · subst e
        rw [if_pos rfl, ← this]
        constructor
        · rintro (h | ⟨_, h⟩)
          · omega
          · exact h
        · exact fun h => .inr ⟨rfl, h⟩
      · rw [if_neg e]
        constructor
        · rintro (h | ⟨h, _⟩)
          · simpa using h
          · omega
        · intro h
          have : x < y := by simpa using h
          exact .inl (by omega)
theorem le_tn (b b' : List Nat) : PySem.W.dataLe false tn b b' = BT.leN b b' := by
  show (!PySem.W.dataLt (tn b') (tn b)) = !BT.ltN b' b
  rw [dataLt_tn]
def rSrtT (K : PySem.W.Frag) : List V → Hp → VK → Prop := fun vs H Q => ∃ (q : Addr) (xs : List V) (l : List (List Nat)) (P : V → List Nat → Prop), vs = [.ref q] ∧ SqL K H q xs ∧ PySem.W.EachIs P xs l ∧ (∀ v b, P v b → Dp K H v (tn b)) ∧ (∀ b ∈ l, b ≠ []) ∧ l.length ≤ 100000 ∧
  ∀ p xs', H p = none → PySem.W.EachIs P xs' (BT.srtT l) → Q (.ref p) (upd H p (.lst xs'))
theorem each_rel {P : V → List Nat → Prop} : ∀ {xs : List V} {us : List Value} {l : List (List Nat)}, Vals xs us → PySem.W.EachIs P xs l → PySem.W.EachIs (fun u b => ∃ v, L2.RelV v u ∧ P v b) us l
  | _, _, _, .nil, .nil => .nil
  | _, _, _, .cons r t, .cons p q => .cons ⟨_, r, p⟩ (each_rel t q)
theorem each_out {P : V → List Nat → Prop} : ∀ {us : List Value} {l : List (List Nat)}, PySem.W.EachIs (fun u b => ∃ v, L2.RelV v u ∧ P v b) us l → ∃ xs, Vals xs us ∧ PySem.W.EachIs P xs l
  | _, _, .nil => ⟨[], .nil, .nil⟩
  | _, _, .cons ⟨v, r, p⟩ t => let ⟨xs, h1, h2⟩ := each_out t; ⟨v :: xs, .cons r h1, .cons p h2⟩
theorem cr_srtT {X : Cx} (hu : X.A.units + 64 < cLine) : CallR X (.builtin "sorted") (rSrtT X.K) := by
  intro pins s σ H vs us Q I r h
  obtain ⟨q, xs, l, P, rfl, hq, hp, hd, hne, hl, k⟩ := h
  rw [Vals.ref1 r]
  obtain ⟨its, rv, pl, hz⟩ := I.list hq
  have e := each_rel rv hp
  refine PySem.W.sorted_data (enc := tn) pl.isList e (e.mono fun u b ⟨v, r, p⟩ => Dp.reads I _ _ _ (hd v b p) r) (PySem.W.AllAlike.of fun b b' => ?_) (.inl fun d hd => ?_) (by rw [sizeLine_eq]; omega) (fun b _ => ?_) fun out ho eo => ?_
  · rw [tn_ints, tn_ints]
    unfold PySem.W.alike
    exact PySem.W.alike_ints _ _
  · obtain ⟨b, hb, rfl⟩ := List.mem_map.mp hd
    cases b with
    | nil => exact absurd rfl (hne _ hb)
    | cons x b => exact ⟨_, _, rfl⟩
  · rw [tn_ints]
    have := PySem.W.depth_ints (b.map fun n : Nat => (n : Int))
    unfold PyData.depth
    rw [this]
    omega
  · obtain ⟨xs', r', p'⟩ := each_out eo
    have hs : l.mergeSort (PySem.W.dataLe false tn) = BT.srtT l := by
      unfold BT.srtT
      congr 1
      funext b b'
      exact le_tn b b'
    rw [hs] at p'
    obtain ⟨c, hc⟩ := sortedAll_at s.heap its out.toArray
    have hn : H (s.heap.objs.size + 1) = none := I.hok.fresh (Nat.le_succ _)
    have hlen : xs'.length ≤ sizeLine := by rw [p'.length, (BT.srtT_perm l).length_eq, sizeLine_eq]; omega
    exact ⟨.ref _, _, I.laid (t' := s.toks) (o := .lst xs') (fun b o q => sortedAll_old q) (Nat.le_succ _) ⟨hlen, _, c, r', hc⟩, rfl, k _ _ hn p'⟩
section
variable {K : PySem.W.Frag}
theorem each_at {G : Hp} : ∀ {xs : List V} {l : List (List Nat)}, AtAll G xs (l.map tn) → PySem.W.EachIs (fun v b => DL.At G v (tn b)) xs l
  | _, [], h => by cases h; exact .nil
  | _, m :: l, h => by
    rw [List.map_cons] at h
    cases h with
    | cons a t => exact .cons a (each_at t)
theorem at_each {G : Hp} : ∀ {xs : List V} {l : List (List Nat)}, PySem.W.EachIs (fun v b => DL.At G v (tn b)) xs l → AtAll G xs (l.map tn)
  | _, _, .nil => .nil
  | _, _, .cons a t => .cons a (at_each t)
theorem d_sortedT {l : List (List Nat)} (hne : ∀ b ∈ l, b ≠ []) (h : l.length ≤ 100000) : CallO (rSrtT K) [ltn l] (fun r => r = (BT.srtT l).map tn) := fun b vs G H Qv e a p => by
  cases a with
  | cons a1 t =>
    cases t
    obtain ⟨q, xs, rfl, _, h3, h4⟩ := At.sqL (K := K) e a1
    refine ⟨q, xs, l, fun v b => DL.At G v (tn b), rfl, h3, each_at h4, fun v b a => (At.mono e a).dp, hne, h, fun r xs' hr q => ?_⟩
    exact p.lst e hr rfl (at_each q)
end
section
variable {X : Cx} {c : Ctx} {ρ : Rho} {pos : Pos} {e : Expr}
theorem o_sortedT {p : Pos} {l : List (List Nat)} (hu : X.A.units + 64 < cLine) (hm : X.mg "sorted" = none) (h : DV X c e ρ (ltn l)) (hne : ∀ b ∈ l, b ≠ []) (hl : l.length ≤ 100000) (hg : Gl X "sorted" := by rfl)
    (na : starEach [e] X.env = (false, eval e X.env) :: starEach [] X.env := by rfl) (hpl : (backTo pos (starEach [] X.env)).any (·.1) = false := by rfl) :
    DO X c (.Call (.Name "sorted" p) [e] [] pos) ρ (fun ds => ds = (BT.srtT l).map tn) :=
  o_callB (cr_srtT hu) hm (a_dv h a_nil na) (fun ds q => q ▸ d_sortedT hne hl) (by decide +kernel) hg (by decide) (by decide) na hpl
end
end DL

/-! ## text DL12 -/
set_option Elab.async false
set_option linter.all false
set_option maxRecDepth 100000
set_option maxHeartbeats 4000000
/-! DL12: texts of data; defs called where no text is under way. -/
namespace DL
open PySem PySem.Spec PyProof.Rows L2

/-! ### small data -/
/-- a text of B signs at most, a depth of k at most -/
structure Sm (B k : Nat) (d : PyData) : Prop where
  len : d.shown.length ≤ B
  show_ : d.showable = true
  nod : d.hasDict = false
  dep : d.depth ≤ k
theorem Sm.mono {B B' k k' : Nat} {d : PyData} (h : Sm B k d) (h1 : B ≤ B') (h2 : k ≤ k') : Sm B' k' d := ⟨Nat.le_trans h.len h1, h.show_, h.nod, Nat.le_trans h.dep h2⟩
theorem sm_all {B k : Nat} : ∀ {xs : List PyData}, (∀ x ∈ xs, Sm B k x) → ((PyData.shownAll xs).map (·.length)).sum ≤ xs.length * B ∧ (PyData.shownAll xs).length = xs.length ∧ PyData.showableAll xs = true ∧ PyData.hasDictAll xs = false ∧ PyData.depthAll xs ≤ k
  | [], _ => ⟨by simp [PyData.shownAll], rfl, rfl, rfl, Nat.zero_le _⟩
  | x :: xs, h => by
    obtain ⟨h1, h2, h3, h4, h5⟩ := sm_all (xs := xs) fun y hy => h y (List.mem_cons_of_mem _ hy)
    have hx := h x List.mem_cons_self
    refine ⟨?_, ?_, ?_, ?_, ?_⟩
    · show (((x.shown :: PyData.shownAll xs)).map (·.length)).sum ≤ _
      rw [List.map_cons, List.sum_cons, List.length_cons, Nat.add_mul]
      have := hx.len
      omega
    · show (x.shown :: PyData.shownAll xs).length = _
      rw [List.length_cons, List.length_cons, h2]
    · show (x.showable && PyData.showableAll xs) = true
      rw [hx.show_, h3]; rfl
    · show (x.hasDict || PyData.hasDictAll xs) = false
      rw [hx.nod, h4]; rfl
    · unfold PyData.depthAll
      have := hx.dep
      omega
theorem sm_list {B k : Nat} {xs : List PyData} (n : Nat) (h : ∀ x ∈ xs, Sm B k x) (hn : xs.length ≤ n) : Sm (n * (B + 2) + 3) (k + 1) (.list xs) := by
  obtain ⟨h1, h2, h3, h4, h5⟩ := sm_all h
  refine ⟨?_, h3, h4, ?_⟩
  · have := listText_len_le (PyData.shownAll xs)
    rw [h2] at this
    have e : (PyData.list xs).shown = listText (PyData.shownAll xs) := rfl
    rw [e]
    have m := Nat.mul_le_mul_right (B + 2) hn
    rw [Nat.mul_add] at m
    omega
  · show PyData.depthAll xs + 1 ≤ _
    omega
theorem sm_tuple {B k : Nat} {xs : List PyData} (n : Nat) (h : ∀ x ∈ xs, Sm B k x) (hn : xs.length ≤ n) : Sm (n * (B + 2) + 3) (k + 1) (.tuple xs) := by
  obtain ⟨h1, h2, h3, h4, h5⟩ := sm_all h
  refine ⟨?_, h3, h4, ?_⟩
  · have := tupleText_len_le (PyData.shownAll xs)
    rw [h2] at this
    have e : (PyData.tuple xs).shown = tupleText (PyData.shownAll xs) := rfl
    rw [e]
    have m := Nat.mul_le_mul_right (B + 2) hn
    rw [Nat.mul_add] at m
    omega
  · show PyData.depthAll xs + 1 ≤ _
    omega
theorem sm_dn {n : Nat} (h : n < 100) : Sm 2 0 (dn n) := by
  refine ⟨?_, ?_, rfl, Nat.le_refl _⟩
  · have : ∀ n : Fin 100, (dn n.1).shown.length ≤ 2 := by decide +kernel
    exact this ⟨n, h⟩
  · have : ∀ n : Fin 100, (dn n.1).showable = true := by decide +kernel
    exact this ⟨n, h⟩
theorem sm_tn {l : List Nat} (n : Nat) (hl : l.length ≤ n) (h : ∀ k ∈ l, k < 100) : Sm (n * 4 + 3) 1 (tn l) := by
  refine sm_tuple n (fun x hx => ?_) (by rw [List.length_map]; exact hl)
  obtain ⟨k, hk, rfl⟩ := List.mem_map.mp hx
  exact sm_dn (h k hk)
theorem sm_bool (b : Bool) : Sm 5 0 (.bool b) := by cases b <;> exact ⟨by decide +kernel, rfl, rfl, Nat.le_refl _⟩

/-! ### repr -/
def rRepr (K : PySem.W.Frag) : List V → Hp → VK → Prop := fun xs H Q => ∃ a d, xs = [.ref a] ∧ Dp K H (.ref a) d ∧ Sm 16000000 40 d ∧ Q (.str d.shown) H
theorem cr_repr {X : Cx} (hg : X.A.guards = some []) (hu : X.A.units + 64 < cLine) : CallR X (.builtin "repr") (rRepr X.K) := by
  intro pins s σ H xs us Q I r h
  obtain ⟨a, d, rfl, hd, sm, q⟩ := h
  rw [Vals.ref1 r]
  obtain ⟨as, rd⟩ := Dp.reads I d (.ref a) (.ref a) hd rfl
  refine repr_of_reads' rd sm.show_ (fun z => by rw [sm.nod] at z; cases z) hg (by have := sm.dep; omega) (fun b o e => e) (fun h' u tk hk => ?_) (by have := sm.len; rw [sizeLine_eq]; omega)
  exact ⟨.str _, H, I.kept hk, ⟨_, rfl⟩, q⟩
section
variable {X : Cx} {c : Ctx} {ρ : Rho} {pos : Pos} {e : Expr}
theorem v_repr {p : Pos} {d : PyData} (hg0 : X.A.guards = some []) (hu : X.A.units + 64 < cLine) (hm : X.mg "repr" = none) (h : DV X c e ρ d) (sm : Sm 16000000 40 d) (hd : (∃ ds, d = .list ds) ∨ ∃ ds, d = .tuple ds) (hg : Gl X "repr" := by rfl)
    (he : starEach [e] X.env = (false, eval e X.env) :: starEach [] X.env := by rfl) (hpl : (backTo pos (starEach [] X.env)).any (·.1) = false := by rfl) : DV X c (.Call (.Name "repr" p) [e] [] pos) ρ (.str d.shown) := fun σ H G S =>
  tW_of (pe_callB (cr_repr hg0 hu) hg hm (by decide +kernel) (pa_cons peW pa_nil he) (by decide) (by decide) he hpl) (tW_mono (h σ H G S) fun v H1 ⟨d', G1, q, g, a⟩ => by
    subst q
    obtain ⟨b, rfl⟩ : ∃ b, v = V.ref b := by
      rcases hd with ⟨ds, rfl⟩ | ⟨ds, rfl⟩
      · obtain ⟨b, _, h, _⟩ := At.sqL (K := X.K) g.e a; exact ⟨b, h⟩
      · obtain ⟨b, _, _, h, _⟩ := At.sqT (K := X.K) g.e a; exact ⟨b, h⟩
    exact ⟨b, _, rfl, (At.mono g.e a).dp, sm, .str _, G1, rfl, g, .str _⟩)
end

/-! ### defs called where no text is under way -/
structure FnG (P : Program) (w : World) (K : PySem.W.Frag) (mg : Str → Option Value) (base : Heap) (k : Nat) (f : Addr) (fd : FuncData) (ps : List Str) (sp : Sp) : Prop where
  len : ∀ vs H Q E, sp vs H Q E → vs.length = ps.length
  run : ∀ (A : Around), A.guards = some [] → ∀ (outer : List Env) (s : Shared) (H : Hp) (args : Args) (us : List Value) (vs : List V) (Q : VK) (E : XK), Room k A → Env0 P w K mg base A outer s H → BindsTo s fd args (ps.zip us) → Vals vs us → sp vs H Q E →
    codeAny (model P w) A (.call (.ref f) args) (CR CX0 outer P w H s Q E) s
theorem fnG_of {P : Program} {w : World} {K : PySem.W.Frag} {mg : Str → Option Value} {base : Heap} {k : Nat} {f : Addr} {name qual : Str} {params : Arguments} {body : List Stmt} {scope : Scope} {dV kV doc pm cdv ct oc : Value} {an od : Option Addr}
    {osl : Array (Option Value)} {N ps : List Str} {sp : Sp} (lk : K.lookup f = some ⟨oc, od, .func (PySem.W.fnOf name qual params body scope dV kV doc pm an cdv ct), osl⟩) (hcd : PySem.W.codeIn K cdv qual = true) (S : FnScope N ps scope)
    (len : ∀ vs H Q E, sp vs H Q E → vs.length = ps.length)
    (hbody : ∀ (A : Around), A.guards = some [] → ∀ (outer : List Env) (s : Shared) (H : Hp) (vs : List V) (Q : VK) (E : XK), Room k (A.deeper (envOfC qual scope s.heap.objs.size f cdv)) → sp vs H Q E →
      ∃ t, PSs (cxOf CX0 P w K mg base N qual scope f cdv A outer s H E) body t ∧ t { nx := fun _ H' => Q .non H', rt := Q } (start N vs) H) :
    FnG P w K mg base (k + 1) f (PySem.W.fnOf name qual params body scope dV kV doc pm an cdv ct) ps sp where
  len := len
  run := by
    intro A gA outer s H args us vs Q E room e0 bnd r hsp
    have many := len vs H Q E hsp
    have up : ∀ (b : Addr) (o : Obj), base.get? b = some o → s.heap.get? b = some o := fun b o e => (e0.bs b o e).1
    have kinds : ∀ y ∈ ps.zip us, scope.names.lookup y.1 = some .local ∨ (scope.names.lookup y.1 = some .cell ∧ ((cellsFrom (s.heap.objs.size + 1) scope.names []).lookup y.1).isSome = true) := by
      rintro ⟨n, v⟩ hy
      exact (S.par n (List.of_mem_zip hy).1).imp id fun q => ⟨q, PySem.W.cellsFrom_some _ _ _ (.inl q)⟩
    have held : K.In s.heap := e0.mod.kin.keeps up
    refine codeAny_call_function room.depth (held f _ lk) rfl S.co S.gen rfl (PySem.W.codeRec_of held hcd) (bnd _ _ _ _ ?_)
    refine wpAny_newFunctionEnv_cells S.kind kinds fun env ee s1 x => ?_
    cases ee
    refine ⟨(e0.mod.nolimit.keeps up).keeps x.toInCall.keep, codeAny_func ?_⟩
    obtain ⟨t, ht, hq⟩ := hbody A gA outer s H vs Q E (room.deeper _) hsp
    have J0 := inv_start (CX := CX0) (E := E) S room.hd e0 many r x
    refine wpAny_mono (ht.run [] s1 _ H _ J0 hq) (fun fl s' hs => ?_) fun _ _ z => z
    match fl, hs with
    | .ret u, ⟨v, _, H', J, rv, q⟩ => exact ⟨v, H', J.os, J.bare, J.base, J.hok, rv, q⟩
    | .next, ⟨_, H', J, q⟩ => exact ⟨V.non, H', J.os, J.bare, J.base, J.hok, rfl, q⟩
    | .brk, ⟨_, _, _, q⟩ => exact q.elim
    | .cont, ⟨_, _, _, q⟩ => exact q.elim
section
variable {X : Cx} {k : Nat} {f : Addr} {fd : FuncData} {ps : List Str} {sp : Sp} {t : TA} {x : Str} {p pos : Pos} {e : Expr} {es : List Expr}
theorem pe_callG (hgd : X.A.guards = some []) (F : FnG X.prog X.w X.K X.mg X.base k f fd ps sp) (hr : Room k X.A) (hg : Gl X x) (hm : X.mg x = some (.ref f)) (hk : PySem.W.keepIn X.K (.ref f) = true) (hb : Binds X.K fd ps []) (ha : PA X (e :: es) t)
    (hdb : (x == ("__debug__" : Str)) = false := by decide) (he : starEach (e :: es) X.env = (false, eval e X.env) :: starEach es X.env := by rfl) (hpl : (backTo pos (starEach es X.env)).any (·.1) = false := by rfl) :
    PE X (.Call (.Name x p) (e :: es) [] pos) (tCall sp [] (fun _ _ _ => False) t) where
  run := by
    intro pins s σ H Q I h
    refine wpAny_Call_Name_kw (ld_glob I hg hm (PySem.W.callWith_K (h₀ := X.base) I.ok.mod.kin hk (thn (ha.run pos pins s σ H _ I h) fun us s1 ⟨vs, H1, I1, r, q⟩ => ⟨I1.kIn, ?_⟩) he hpl) hdb)
    have r2 : Vals (vs ++ []) (us ++ []) := r.append .nil
    have many : (us ++ []).length = ps.length := r2.length.symm.trans (F.len _ _ _ _ q)
    refine wpAny_call (codeAny_mono (F.run X.A hgd X.stack s1 H1 ⟨us, []⟩ (us ++ []) (vs ++ []) Q _ hr I1.env0 (hb s1 us I1.kIn many) r2 q) fun r s' hq => ?_)
    match r, hq with
    | .error e, hq => exact pass0 pins σ H1 s1 e s' I1 hq
    | .ok (.ret u), hq => exact I1.after hq
    | .ok .next, hq => exact False.elim hq
    | .ok .brk, hq => exact False.elim hq
    | .ok .cont, hq => exact False.elim hq
end

section
variable {X : Cx} {c : Ctx} {ρ : Rho} {pos : Pos} {e a b : Expr} {P : Rho → Prop} {R : PyData → Prop} {rest : List Stmt}
/-- an expression as a statement -/
theorem s_expr {Q : PyData → Prop} (h : DE X c e ρ Q) (k : Runs X c rest ρ P R) (hs : swapsWith e none pos.line X.env = pure false := by rfl) : Runs X c (.Expr e pos :: rest) ρ P R := fun σ H G S D hn hr =>
  tseq (ps_expr peW hs) (tW_mono (h σ H G S) fun v H1 ⟨d, G1, q, g, a⟩ => k.go (S.grow g) g.g hn hr)
/-- [elt for x in iter if test] inside another -/
theorem n_flt1 (i : Nat) {α : Type} {xs : List α} {enc : α → PyData} {p : α → Bool} {f : α → PyData} {elt iter : Expr} {ifs : List Expr} {scope : Scope} {nm : Str} {px : Pos} {N : List Str} {sc : Scope} (nd : N.Nodup)
    (hi : DI X c (.one i) (.Name nm px) iter ρ (fun as => as = xs.map enc)) (hlen : xs.length ≤ 100000)
    (ht : ∀ x ∈ xs, Blk X scope fun X' => DTs X' c ifs ((wip ρ [i]).set i (some (.dat (enc x)))) (p x))
    (he : ∀ x ∈ xs, p x = true → Blk X scope fun X' => DV X' c elt ((wip ρ [i]).set i (some (.dat (enc x)))) (f x))
    (hlt : i < c.n := by exact Nat.le_of_ble_eq_true rfl) (hc : X.calm = true := by rfl) (hXN : X.N = N := by rfl) (hsc : X.env.scope = sc := by rfl) (ok : blkC N sc scope [(nm, i)] = true := by decide +kernel) (hxi : N[i]? = some nm := by rfl)
    (hloc : ∀ C cl, Loc (compEnvC scope cl C X.env).scope nm := by intro _ _; exact Or.inl rfl) (hfn : scope.names.lookup nm = some .cell ∨ ∀ C cl, (compEnvC scope cl C X.env).scope.names.lookup nm = some .local := by first | exact Or.inr (fun _ _ => rfl) | exact Or.inl rfl)
    (hs : ∀ x, foldedSetIterable iter X.env x = pure x := by intro _; rfl) :
    DC X c (.ListComp elt [⟨.Name nm px, iter, ifs, 0⟩] scope pos) ρ (fun ds => ds = (xs.filter p).map f) :=
  o_lc (B := .one i) [(nm, i)] hc (hXN ▸ nd) (by rw [hXN, hsc]; exact blkOk_by ok) (fun j hj => by simpa [Bnd.sl] using hj) hlt hi (fun _ _ => trivial)
    (fun s H C cl fp => pg_name (X := X.blk s H scope (compEnvC scope cl C X.env) fp) (hXN ▸ nd) (by show X.N[i]? = some nm; rw [hXN]; exact hxi) (hloc C cl) (by
      rcases hfn with h | h
      · exact .inl (by show (scope.names.lookup nm == some .cell) = true; rw [h]; rfl)
      · exact .inr (h C cl))) ht he hlen hs
theorem n_map1 (i : Nat) {α : Type} {xs : List α} {enc : α → PyData} {f : α → PyData} {elt iter : Expr} {scope : Scope} {nm : Str} {px : Pos} {N : List Str} {sc : Scope} (nd : N.Nodup)
    (hi : DI X c (.one i) (.Name nm px) iter ρ (fun as => as = xs.map enc)) (hlen : xs.length ≤ 100000)
    (he : ∀ x ∈ xs, Blk X scope fun X' => DV X' c elt ((wip ρ [i]).set i (some (.dat (enc x)))) (f x))
    (hlt : i < c.n := by exact Nat.le_of_ble_eq_true rfl) (hc : X.calm = true := by rfl) (hXN : X.N = N := by rfl) (hsc : X.env.scope = sc := by rfl) (ok : blkC N sc scope [(nm, i)] = true := by decide +kernel) (hxi : N[i]? = some nm := by rfl)
    (hloc : ∀ C cl, Loc (compEnvC scope cl C X.env).scope nm := by intro _ _; exact Or.inl rfl) (hfn : scope.names.lookup nm = some .cell ∨ ∀ C cl, (compEnvC scope cl C X.env).scope.names.lookup nm = some .local := by first | exact Or.inr (fun _ _ => rfl) | exact Or.inl rfl)
    (hs : ∀ x, foldedSetIterable iter X.env x = pure x := by intro _; rfl) :
    DC X c (.ListComp elt [⟨.Name nm px, iter, [], 0⟩] scope pos) ρ (fun ds => ds = xs.map f) :=
  (n_flt1 (p := fun _ => true) i nd hi hlen (fun x hx _ _ _ _ _ => ts_nil) (fun x hx _ => he x hx) hlt hc hXN hsc ok hxi hloc hfn hs).imp fun ds q => by rw [q, List.filter_eq_self.mpr (fun _ _ => rfl)]
theorem t_or3 {d : Expr} {k1 k2 k3 : Bool} (h1 : DT X c a ρ (fun k => k = k1)) (h2 : k1 = false → DT X c b ρ (fun k => k = k2)) (h3 : k1 = false → k2 = false → DT X c d ρ (fun k => k = k3)) : DT X c (.BoolOp .Or [a, b, d] pos) ρ (fun k => k = (k1 || (k2 || k3))) :=
  t_pw (w_or h1 (fun q => w_or (Q := fun k => k = (k2 || k3)) (h2 q.symm) (fun q2 => w_or1 (h3 q.symm q2.symm)) (fun q2 => by rw [← q2]; rfl) (fun k q1 q2 => by rw [← q1, q2]; rfl)) (fun q => by rw [← q]; rfl) (fun k q1 q2 => by rw [← q1, q2]; rfl))
theorem t_and3 {d : Expr} {k1 k2 k3 : Bool} (h1 : DT X c a ρ (fun k => k = k1)) (h2 : k1 = true → DT X c b ρ (fun k => k = k2)) (h3 : k1 = true → k2 = true → DT X c d ρ (fun k => k = k3)) : DT X c (.BoolOp .And [a, b, d] pos) ρ (fun k => k = (k1 && (k2 && k3))) :=
  t_pw (w_and h1 (fun q => w_and (Q := fun k => k = (k2 && k3)) (h2 q.symm) (fun q2 => w_and1 (h3 q.symm q2.symm)) (fun q2 => by rw [← q2]; rfl) (fun k q1 q2 => by rw [← q1, q2]; rfl)) (fun q => by rw [← q]; rfl) (fun k q1 q2 => by rw [← q1, q2]; rfl))
/-- zip of two encoded tuples -/
theorem i_zipE {α β : Type} {ea : α → PyData} {eb : β → PyData} {l : List α} {m : List β} {i j : Nat} {p tpos : Pos} {elts : List Expr} {kk : Nat} (ha : DV X c a ρ (.tuple (l.map ea))) (hb : DV X c b ρ (.tuple (m.map eb))) (hm : X.mg "zip" = none) (hg : Gl X "zip" := by rfl)
    (hs : starEach [a, b] X.env = (false, eval a X.env) :: starEach [b] X.env := by rfl) (hs2 : starEach [b] X.env = (false, eval b X.env) :: starEach [] X.env := by rfl) (hpl : (backTo pos (starEach [b] X.env)).any (·.1) = false := by rfl) :
    DI X c (.two i j) (.Tuple elts kk tpos) (.Call (.Name "zip" p) [a, b] [] pos) ρ (fun as => as = (l.zip m).map fun x => .tuple [ea x.1, eb x.2]) := fun σ H G S =>
  tWI_mono (i_zip (DE.w ha) (DE.w hb) hm hg hs hs2 hpl σ H G S) fun J H' ⟨as, G', q, r⟩ => ⟨as, G', by rw [q, List.zip_map, List.map_map]; rfl, r⟩
theorem i_enumE {α : Type} {enc : α → PyData} {l : List α} {i j : Nat} {p tpos : Pos} {elts : List Expr} {kk : Nat} (h : DV X c e ρ (.tuple (l.map enc))) (hm : X.mg "enumerate" = none) (hg : Gl X "enumerate" := by rfl)
    (hs : starEach [e] X.env = (false, eval e X.env) :: starEach [] X.env := by rfl) :
    DI X c (.two i j) (.Tuple elts kk tpos) (.Call (.Name "enumerate" p) [e] [] pos) ρ (fun as => as = l.zipIdx.map fun x => .tuple [dn x.2, enc x.1]) := fun σ H G S =>
  tWI_mono (i_enum h hm hg hs σ H G S) fun J H' ⟨as, G', q, r⟩ => ⟨as, G', by rw [q, List.zipIdx_map, List.map_map]; rfl, r⟩
/-- slices of a list -/
theorem o_cut {lo hi : Option Expr} {p2 : Pos} {ds : List PyData} {l u : Option Int} (ha : DV X c a ρ (.list ds)) (hl : Bd X c lo ρ (fun o => o = l)) (hh : Bd X c hi ρ (fun o => o = u)) : DO X c (.Subscript a (.Slice lo hi none p2) pos) ρ (fun r => r = cutD ds l u) :=
  o_sl sl_list ha hl hh fun d l' u' q1 q2 q3 => by rw [q1, q2, q3]; exact d_slL
end

/-! ### calls by keywords alone -/
/-- of two values, the first is the second parameter's -/
def sw2 {α : Type} : List α → List α → List α
  | [], [a, b] => [b, a]
  | _, _ => []
theorem sw2_rel {vs : List V} {us : List Value} {zs : List V} {ws : List Value} (h1 : Vals vs us) (h2 : Vals zs ws) : Vals (sw2 vs zs) (sw2 us ws) := by
  cases h1 with
  | cons _ _ => exact .nil
  | nil => cases h2 with
    | nil => exact .nil
    | cons a t => cases t with
      | nil => exact .nil
      | cons b t => cases t with
        | nil => exact .cons b (.cons a .nil)
        | cons _ _ => exact .nil
/-- in the parameters' order -/
def st0 {α : Type} : List α → List α → List α
  | [], l => l
  | _, _ => []
theorem st0_rel {vs : List V} {us : List Value} {zs : List V} {ws : List Value} (h1 : Vals vs us) (h2 : Vals zs ws) : Vals (st0 vs zs) (st0 us ws) := by
  cases h1 with
  | cons _ _ => exact .nil
  | nil => exact h2
structure CalK (P : Program) (w : World) (K : PySem.W.Frag) (mg : Str → Option Value) (base : Heap) (x : Str) (k : Nat) (ps ks : List Str) (sp : Sp) (g : List Value → List Value → List Value) (gV : List V → List V → List V) : Prop where
  ex : ∃ f fd, FnOk P w K mg base CX0 k f fd ps sp ∧ mg x = some (.ref f) ∧ PySem.W.keepIn K (.ref f) = true ∧ KBinds K fd ps ks g gV
theorem Cal.kw {P : Program} {w : World} {K : PySem.W.Frag} {mg : Str → Option Value} {base : Heap} {x : Str} {k : Nat} {ps ks : List Str} {sp : Sp} {st : Stmt} {g : List Value → List Value → List Value} {gV : List V → List V → List V} (C : Cal P w K mg base x k ps sp) (D : DefAt K mg x st)
    (hb : ∀ (kV doc pm : Value) (an : Option Addr) (cdv ct : Value) (us ws : List Value), (g us ws).length = ps.length → bindArgs (PySem.W.fnOf x x (defArgs st) (defBody st) (defScope st) .none kV doc pm an cdv ct) ⟨us, ks.zip ws⟩ = pure (ps.zip (g us ws)))
    (hr : ∀ {vs : List V} {us : List Value} {zs : List V} {ws : List Value}, Vals vs us → Vals zs ws → Vals (gV vs zs) (g us ws)) : CalK P w K mg base x k ps ks sp g gV := by
  obtain ⟨f, fd, F, m, kp, b, oc, od, osl, lk⟩ := C.ex
  obtain ⟨f', fd', N, m'⟩ := D.ex
  rw [m] at m'
  cases m'
  obtain ⟨oc', od', dV, kV, doc, pm, an, cdv, ct, osl', rfl, lk', hcd, hD, _⟩ := N.ex
  rw [lk] at lk'
  cases lk'
  refine ⟨f, _, F, m, kp, fun s us ws _ hl => ?_, hr⟩
  rcases hD with ⟨_, rfl⟩ | ⟨e, _⟩
  · exact .of_eq (hb kV doc pm an cdv ct us ws hl)
  · exact absurd rfl e
/-- .. where no text is under way, the bag ahead -/
structure CalG (P : Program) (w : World) (K : PySem.W.Frag) (mg : Str → Option Value) (base : Heap) (x : Str) (k : Nat) (ps : List Str) (sp : Sp) : Prop where
  ex : ∃ f fd, FnG P w K mg base k f fd ps sp ∧ mg x = some (.ref f) ∧ PySem.W.keepIn K (.ref f) = true ∧ Binds K fd ps []
theorem fn_BG {P : Program} {w : World} {K : PySem.W.Frag} {mg : Str → Option Value} {base : Heap} {x : Str} {st : Stmt} {N ps : List Str} {k : Nat} {T : List PyData → (PyData → Prop) → Prop} (Df : DefAt K mg x st) (S : FnScope N ps (defScope st)) (hl : ∀ ds R, T ds R → ds.length + 1 = ps.length)
    (hbind : ∀ (kV doc pm : Value) (an : Option Addr) (cdv ct : Value) (us : List Value), us.length = ps.length → bindArgs (PySem.W.fnOf x x (defArgs st) (defBody st) (defScope st) .none kV doc pm an cdv ct) ⟨us, []⟩ = pure (ps.zip us))
    (hb : ∀ f cdv A outer s H E G0 H0 b, (A.deeper (envOfC x (defScope st) s.heap.objs.size f cdv)).guards = some [] → Room k (A.deeper (envOfC x (defScope st) s.heap.objs.size f cdv)) → ∀ ds R, T ds R →
      Runs (cxOf CX0 P w K mg base N x (defScope st) f cdv A outer s H E).nox ⟨some b, G0, H0, N.length⟩ (defBody st) (rhoB N ds) (fun _ => R .none) R) : CalG P w K mg base x (k + 1) ps (spB T) := by
  obtain ⟨f, fd, F, hm⟩ := Df.ex
  have kp := F.kp
  have bn := F.bindsN hbind
  obtain ⟨oc, od, dV, kV, doc, pm, an, cdv, ct, osl, rfl, lk, hcd, _, _⟩ := F.ex
  refine ⟨f, _, fnG_of lk hcd S (fun vs H Q E h => ?_) (fun A gA outer s H vs Q E hr h => ⟨_, pssW.nox, body_B S hl h fun G0 H0 b => hb f cdv A outer s H E G0 H0 b gA hr⟩), hm, kp, bn⟩
  obtain ⟨b, G, ds, R, ws, rfl, _, _, _, a, t, _⟩ := h
  rw [List.length_cons, a.length]; exact hl ds R t
section
variable {X : Cx} {c : Ctx} {ρ : Rho} {pos : Pos} {e : Expr}
theorem e_calK {x : Str} {p : Pos} {kws : List Keyword} {ps ks : List Str} {g : List Value → List Value → List Value} {gV : List V → List V → List V} {k k' : Nat} {T : List PyData → (PyData → Prop) → Prop} {Qa : List PyData → Prop} {R : PyData → Prop}
    (C : CalK X.prog X.w X.K X.mg X.base x k ps ks (spD T) g gV) (hr : Room k' X.A) (hk : k ≤ k')
    (ha : DK X c kws ρ Qa) (ht : ∀ G zs ds, Qa ds → AtAll G zs ds → ∃ ds', AtAll G (gV [] zs) ds' ∧ T ds' R) (hall : (backToKw pos (keywordEach kws X.env)).all (·.1.isSome) = true := by rfl) (hks : (backToKw pos (keywordEach kws X.env)).filterMap (·.1) = ks := by rfl)
    (hg : Gl X x := by rfl) (hdb : (x == ("__debug__" : Str)) = false := by decide) (hpl : ((backTo pos (starEach [] X.env)).any (·.1) || (backToKw pos (keywordEach kws X.env)).any (·.1.isNone)) = false := by rfl) :
    DE X c (.Call (.Name x p) [] kws pos) ρ R := by
  obtain ⟨f, fd, F, m, kp, b⟩ := C.ex
  exact e_callK F (hr.mono hk) m kp b ha ht hall hks hg hdb hpl
end
end DL

/-! ## text TX -/
set_option Elab.async false
set_option linter.all false
set_option maxRecDepth 100000
set_option maxHeartbeats 4000000
/-! TX: the defs of the text by places, their names by slots. -/
namespace BT
open PySem PySem.Spec PyProof.Rows L2 DL
def topS (i : Nat) : Stmt := PySem.Challenge.pw_belltables_k38_whole_consistent_supports.main.body.getD i (.Pass ⟨0, 0, 0, 0⟩)
abbrev s_is_whole : Stmt := topS 1
abbrev n_is_whole : List Str := ["value"]
theorem c_is_whole : FnScope n_is_whole ["value"] (defScope s_is_whole) := ⟨rfl, rfl, rfl, by decide +kernel, rfl, by decide +kernel, by decide +kernel⟩
abbrev s_is_between : Stmt := topS 2
abbrev n_is_between : List Str := ["value", "low", "high"]
theorem c_is_between : FnScope n_is_between ["value", "low", "high"] (defScope s_is_between) := ⟨rfl, rfl, rfl, by decide +kernel, rfl, by decide +kernel, by decide +kernel⟩
abbrev s_is_tuple_of : Stmt := topS 3
abbrev n_is_tuple_of : List Str := ["value", "many"]
theorem c_is_tuple_of : FnScope n_is_tuple_of ["value", "many"] (defScope s_is_tuple_of) := ⟨rfl, rfl, rfl, by decide +kernel, rfl, by decide +kernel, by decide +kernel⟩
abbrev s_is_lot_of : Stmt := topS 8
abbrev n_is_lot_of : List Str := ["value", "many", "each", "one", "two"]
theorem c_is_lot_of : FnScope n_is_lot_of ["value", "many"] (defScope s_is_lot_of) := ⟨rfl, rfl, rfl, by decide +kernel, rfl, by decide +kernel, by decide +kernel⟩
abbrev s_is_part : Stmt := topS 9
abbrev n_is_part : List Str := ["one", "two", "each"]
theorem c_is_part : FnScope n_is_part ["one", "two"] (defScope s_is_part) := ⟨rfl, rfl, rfl, by decide +kernel, rfl, by decide +kernel, by decide +kernel⟩
abbrev s_product_of : Stmt := topS 10
abbrev n_product_of : List Str := ["numbers", "found", "each"]
theorem c_product_of : FnScope n_product_of ["numbers"] (defScope s_product_of) := ⟨rfl, rfl, rfl, by decide +kernel, rfl, by decide +kernel, by decide +kernel⟩
abbrev s_are_outcomes : Stmt := topS 11
abbrev n_are_outcomes : List Str := ["value", "each"]
theorem c_are_outcomes : FnScope n_are_outcomes ["value"] (defScope s_are_outcomes) := ⟨rfl, rfl, rfl, by decide +kernel, rfl, by decide +kernel, by decide +kernel⟩
abbrev s_are_contexts : Stmt := topS 12
abbrev n_are_contexts : List Str := ["value", "many", "each", "one", "two", "context"]
theorem c_are_contexts : FnScope n_are_contexts ["value", "many"] (defScope s_are_contexts) := ⟨rfl, rfl, rfl, by decide +kernel, rfl, by decide +kernel, by decide +kernel⟩
abbrev s_is_scenario_by : Stmt := topS 13
abbrev n_is_scenario_by : List Str := ["value"]
theorem c_is_scenario_by : FnScope n_is_scenario_by ["value"] (defScope s_is_scenario_by) := ⟨rfl, rfl, rfl, by decide +kernel, rfl, by decide +kernel, by decide +kernel⟩
abbrev s_sections_by : Stmt := topS 14
abbrev n_sections_by : List Str := ["scenario", "lot", "found", "each", "section", "outcome"]
theorem c_sections_by : FnScope n_sections_by ["scenario", "lot"] (defScope s_sections_by) := ⟨rfl, rfl, rfl, by decide +kernel, rfl, by decide +kernel, by decide +kernel⟩
abbrev s_all_of : Stmt := topS 15
abbrev n_all_of : List Str := ["scenario"]
theorem c_all_of : FnScope n_all_of ["scenario"] (defScope s_all_of) := ⟨rfl, rfl, rfl, by decide +kernel, rfl, by decide +kernel, by decide +kernel⟩
abbrev s_globals_of : Stmt := topS 16
abbrev n_globals_of : List Str := ["scenario"]
theorem c_globals_of : FnScope n_globals_of ["scenario"] (defScope s_globals_of) := ⟨rfl, rfl, rfl, by decide +kernel, rfl, by decide +kernel, by decide +kernel⟩
abbrev s_part_of : Stmt := topS 17
abbrev n_part_of : List Str := ["section", "lot", "less", "each"]
theorem c_part_of : FnScope n_part_of ["section", "lot", "less"] (defScope s_part_of) := ⟨rfl, rfl, rfl, by decide +kernel, rfl, by decide +kernel, by decide +kernel⟩
abbrev s_shared_by : Stmt := topS 18
abbrev n_shared_by : List Str := ["one", "two", "each"]
theorem c_shared_by : FnScope n_shared_by ["one", "two"] (defScope s_shared_by) := ⟨rfl, rfl, rfl, by decide +kernel, rfl, by decide +kernel, by decide +kernel⟩
abbrev s_check_scenario : Stmt := topS 26
abbrev n_check_scenario : List Str := ["value"]
theorem c_check_scenario : FnScope n_check_scenario ["value"] (defScope s_check_scenario) := ⟨rfl, rfl, rfl, by decide +kernel, rfl, by decide +kernel, by decide +kernel⟩
abbrev s_check_between : Stmt := topS 27
abbrev n_check_between : List Str := ["value", "low", "high"]
theorem c_check_between : FnScope n_check_between ["value", "low", "high"] (defScope s_check_between) := ⟨rfl, rfl, rfl, by decide +kernel, rfl, by decide +kernel, by decide +kernel⟩
abbrev s_is_section_of : Stmt := topS 29
abbrev n_is_section_of : List Str := ["scenario", "lot", "value", "observable", "each"]
theorem c_is_section_of : FnScope n_is_section_of ["scenario", "lot", "value"] (defScope s_is_section_of) := ⟨rfl, rfl, rfl, by decide +kernel, rfl, by decide +kernel, by decide +kernel⟩
abbrev s_are_sections : Stmt := topS 30
abbrev n_are_sections : List Str := ["scenario", "lot", "value", "each", "one", "two"]
theorem c_are_sections : FnScope n_are_sections ["scenario", "lot", "value"] (defScope s_are_sections) := ⟨rfl, rfl, rfl, by decide +kernel, rfl, by decide +kernel, by decide +kernel⟩
abbrev s_wrong_in_support : Stmt := topS 31
abbrev n_wrong_in_support : List Str := ["scenario", "value", "at", "lot"]
theorem c_wrong_in_support : FnScope n_wrong_in_support ["scenario", "value"] (defScope s_wrong_in_support) := ⟨rfl, rfl, rfl, by decide +kernel, rfl, by decide +kernel, by decide +kernel⟩
abbrev s_told_parts : Stmt := topS 32
abbrev n_told_parts : List Str := ["possible", "lot", "less", "each"]
theorem c_told_parts : FnScope n_told_parts ["possible", "lot", "less"] (defScope s_told_parts) := ⟨rfl, rfl, rfl, by decide +kernel, rfl, by decide +kernel, by decide +kernel⟩
abbrev s_are_matched : Stmt := topS 33
abbrev n_are_matched : List Str := ["scenario", "support", "one", "two", "first", "second", "both"]
theorem c_are_matched : FnScope n_are_matched ["scenario", "support", "one", "two"] (defScope s_are_matched) := ⟨rfl, rfl, rfl, by decide +kernel, rfl, by decide +kernel, by decide +kernel⟩
abbrev s_is_consistent_by : Stmt := topS 34
abbrev n_is_consistent_by : List Str := ["scenario", "support", "many", "one", "two"]
theorem c_is_consistent_by : FnScope n_is_consistent_by ["scenario", "support"] (defScope s_is_consistent_by) := ⟨rfl, rfl, rfl, by decide +kernel, rfl, by decide +kernel, by decide +kernel⟩
abbrev s_is_possible : Stmt := topS 35
abbrev n_is_possible : List Str := ["scenario", "support", "assignment", "whole", "lot", "some"]
theorem c_is_possible : FnScope n_is_possible ["scenario", "support", "assignment"] (defScope s_is_possible) := ⟨rfl, rfl, rfl, by decide +kernel, rfl, by decide +kernel, by decide +kernel⟩
abbrev s_extending_by : Stmt := topS 36
abbrev n_extending_by : List Str := ["scenario", "support", "each"]
theorem c_extending_by : FnScope n_extending_by ["scenario", "support"] (defScope s_extending_by) := ⟨rfl, rfl, rfl, by decide +kernel, rfl, by decide +kernel, by decide +kernel⟩
abbrev s_tells : Stmt := topS 37
abbrev n_tells : List Str := ["scenario", "assignment", "at", "section"]
theorem c_tells : FnScope n_tells ["scenario", "assignment", "at", "section"] (defScope s_tells) := ⟨rfl, rfl, rfl, by decide +kernel, rfl, by decide +kernel, by decide +kernel⟩
abbrev s_extensions_by : Stmt := topS 38
abbrev n_extensions_by : List Str := ["scenario", "support", "at", "section", "each"]
theorem c_extensions_by : FnScope n_extensions_by ["scenario", "support", "at", "section"] (defScope s_extensions_by) := ⟨rfl, rfl, rfl, by decide +kernel, rfl, by decide +kernel, by decide +kernel⟩
abbrev s_lonely_by : Stmt := topS 39
abbrev n_lonely_by : List Str := ["scenario", "support", "found", "at", "some", "each"]
theorem c_lonely_by : FnScope n_lonely_by ["scenario", "support"] (defScope s_lonely_by) := ⟨rfl, rfl, rfl, by decide +kernel, rfl, by decide +kernel, by decide +kernel⟩
abbrev s_contextuality_by : Stmt := topS 40
abbrev n_contextuality_by : List Str := ["scenario", "support"]
theorem c_contextuality_by : FnScope n_contextuality_by ["scenario", "support"] (defScope s_contextuality_by) := ⟨rfl, rfl, rfl, by decide +kernel, rfl, by decide +kernel, by decide +kernel⟩
abbrev s_check_support : Stmt := topS 42
abbrev n_check_support : List Str := ["scenario", "support", "index"]
theorem c_check_support : FnScope n_check_support ["scenario", "support"] (defScope s_check_support) := ⟨rfl, rfl, rfl, by decide +kernel, rfl, by decide +kernel, by decide +kernel⟩
abbrev s_is_consistent : Stmt := topS 43
abbrev n_is_consistent : List Str := ["scenario", "support"]
theorem c_is_consistent : FnScope n_is_consistent ["scenario", "support"] (defScope s_is_consistent) := ⟨rfl, rfl, rfl, by decide +kernel, rfl, by decide +kernel, by decide +kernel⟩
abbrev s_extending : Stmt := topS 44
abbrev n_extending : List Str := ["scenario", "support"]
theorem c_extending : FnScope n_extending ["scenario", "support"] (defScope s_extending) := ⟨rfl, rfl, rfl, by decide +kernel, rfl, by decide +kernel, by decide +kernel⟩
abbrev s_extension : Stmt := topS 45
abbrev n_extension : List Str := ["scenario", "support", "context", "section"]
theorem c_extension : FnScope n_extension ["scenario", "support", "context", "section"] (defScope s_extension) := ⟨rfl, rfl, rfl, by decide +kernel, rfl, by decide +kernel, by decide +kernel⟩
abbrev s_non_extending : Stmt := topS 46
abbrev n_non_extending : List Str := ["scenario", "support"]
theorem c_non_extending : FnScope n_non_extending ["scenario", "support"] (defScope s_non_extending) := ⟨rfl, rfl, rfl, by decide +kernel, rfl, by decide +kernel, by decide +kernel⟩
abbrev s_contextuality_of : Stmt := topS 47
abbrev n_contextuality_of : List Str := ["scenario", "support"]
theorem c_contextuality_of : FnScope n_contextuality_of ["scenario", "support"] (defScope s_contextuality_of) := ⟨rfl, rfl, rfl, by decide +kernel, rfl, by decide +kernel, by decide +kernel⟩
abbrev s__law_bag : Stmt := topS 49
abbrev n__law_bag : List Str := ["_law_script", "_law_turn", "_law_stir", "_law_cell", "_law_own"]
theorem c__law_bag : FnScope n__law_bag ["_law_script", "_law_turn"] (defScope s__law_bag) := ⟨rfl, rfl, rfl, by decide +kernel, rfl, by decide +kernel, by decide +kernel⟩
abbrev s__law_draw : Stmt := topS 50
abbrev n__law_draw : List Str := ["_law_bag_here", "_law_many", "_law_digit"]
theorem c__law_draw : FnScope n__law_draw ["_law_bag_here", "_law_many"] (defScope s__law_draw) := ⟨rfl, rfl, rfl, by decide +kernel, rfl, by decide +kernel, by decide +kernel⟩
abbrev s__law_any : Stmt := topS 51
abbrev n__law_any : List Str := ["_law_bag_here", "_law_some"]
theorem c__law_any : FnScope n__law_any ["_law_bag_here", "_law_some"] (defScope s__law_any) := ⟨rfl, rfl, rfl, by decide +kernel, rfl, by decide +kernel, by decide +kernel⟩
abbrev s__law_mixed : Stmt := topS 52
abbrev n__law_mixed : List Str := ["_law_bag_here", "_law_some", "_law_left", "_law_found", "_law_turn"]
theorem c__law_mixed : FnScope n__law_mixed ["_law_bag_here", "_law_some"] (defScope s__law_mixed) := ⟨rfl, rfl, rfl, by decide +kernel, rfl, by decide +kernel, by decide +kernel⟩
abbrev s__law_cells : Stmt := topS 53
abbrev n__law_cells : List Str := ["_law_sizes", "_law_found", "_law_size", "_law_longer", "_law_each", "_law_here"]
theorem c__law_cells : FnScope n__law_cells ["_law_sizes"] (defScope s__law_cells) := ⟨rfl, rfl, rfl, by decide +kernel, rfl, by decide +kernel, by decide +kernel⟩
abbrev s__law_told : Stmt := topS 54
abbrev n__law_told : List Str := ["_law_whole", "_law_arrow", "_law_k"]
theorem c__law_told : FnScope n__law_told ["_law_whole", "_law_arrow"] (defScope s__law_told) := ⟨rfl, rfl, rfl, by decide +kernel, rfl, by decide +kernel, by decide +kernel⟩
abbrev s__law_part : Stmt := topS 55
abbrev n__law_part : List Str := ["_law_cell", "_law_arrow", "_law_lesser", "_law_k"]
theorem c__law_part : FnScope n__law_part ["_law_cell", "_law_arrow", "_law_lesser"] (defScope s__law_part) := ⟨rfl, rfl, rfl, by decide +kernel, rfl, by decide +kernel, by decide +kernel⟩
abbrev s__law_common : Stmt := topS 56
abbrev n__law_common : List Str := ["_law_here", "_law_there", "_law_k"]
theorem c__law_common : FnScope n__law_common ["_law_here", "_law_there"] (defScope s__law_common) := ⟨rfl, rfl, rfl, by decide +kernel, rfl, by decide +kernel, by decide +kernel⟩
abbrev s__law_rid : Stmt := topS 57
abbrev n__law_rid : List Str := ["_law_lots", "_law_many", "_law_seen", "_law_lot_here", "_law_every", "_law_k", "_law_found", "_law_wider", "_law_each"]
theorem c__law_rid : FnScope n__law_rid ["_law_lots", "_law_many"] (defScope s__law_rid) := ⟨rfl, rfl, rfl, by decide +kernel, rfl, by decide +kernel, by decide +kernel⟩
abbrev s__law_tree_lots : Stmt := topS 58
abbrev n__law_tree_lots : List Str := ["_law_bag_here", "_law_many", "_law_order", "_law_found", "_law_free", "_law_size", "_law_turn", "_law_old", "_law_kept", "_law_more"]
theorem c__law_tree_lots : FnScope n__law_tree_lots ["_law_bag_here", "_law_many"] (defScope s__law_tree_lots) := ⟨rfl, rfl, rfl, by decide +kernel, rfl, by decide +kernel, by decide +kernel⟩
abbrev s__law_sections : Stmt := topS 59
abbrev n__law_sections : List Str := ["_law_world", "_law_spot", "_law_k"]
theorem c__law_sections : FnScope n__law_sections ["_law_world", "_law_spot"] (defScope s__law_sections) := ⟨rfl, rfl, rfl, by decide +kernel, rfl, by decide +kernel, by decide +kernel⟩
abbrev s__law_of_wholes : Stmt := topS 60
abbrev n__law_of_wholes : List Str := ["_law_world", "_law_wholes", "_law_found", "_law_arrow", "_law_cells_here", "_law_whole", "_law_cell"]
theorem c__law_of_wholes : FnScope n__law_of_wholes ["_law_world", "_law_wholes"] (defScope s__law_of_wholes) := ⟨rfl, rfl, rfl, by decide +kernel, rfl, by decide +kernel, by decide +kernel⟩
abbrev s__law_shrunk : Stmt := topS 61
abbrev n__law_shrunk : List Str := ["_law_world", "_law_rows", "_law_found", "_law_row", "_law_turn", "_law_lesser_rows", "_law_one", "_law_kept", "_law_cell", "_law_fits", "_law_two", "_law_lesser", "_law_due", "_law_each"]
theorem c__law_shrunk : FnScope n__law_shrunk ["_law_world", "_law_rows"] (defScope s__law_shrunk) := ⟨rfl, rfl, rfl, by decide +kernel, rfl, by decide +kernel, by decide +kernel⟩
abbrev s__law_some_cells : Stmt := topS 62
abbrev n__law_some_cells : List Str := ["_law_bag_here", "_law_cells_here", "_law_often", "_law_found", "_law_cell"]
theorem c__law_some_cells : FnScope n__law_some_cells ["_law_bag_here", "_law_cells_here", "_law_often"] (defScope s__law_some_cells) := ⟨rfl, rfl, rfl, by decide +kernel, rfl, by decide +kernel, by decide +kernel⟩
abbrev s__law_possible : Stmt := topS 63
abbrev n__law_possible : List Str := ["_law_world", "_law_rows", "_law_found", "_law_whole", "_law_k"]
theorem c__law_possible : FnScope n__law_possible ["_law_world", "_law_rows"] (defScope s__law_possible) := ⟨rfl, rfl, rfl, by decide +kernel, rfl, by decide +kernel, by decide +kernel⟩
abbrev s__law_tree_world : Stmt := topS 64
abbrev n__law_tree_world : List Str := ["_law_bag_here", "_law_many", "_law_lots", "_law_sizes"]
theorem c__law_tree_world : FnScope n__law_tree_world ["_law_bag_here"] (defScope s__law_tree_world) := ⟨rfl, rfl, rfl, by decide +kernel, rfl, by decide +kernel, by decide +kernel⟩
abbrev s__law_ring_row : Stmt := topS 65
abbrev n__law_ring_row : List Str := ["_law_world", "_law_spot", "_law_ring", "_law_found", "_law_last", "_law_cell", "_law_fits", "_law_k", "_law_inner", "_law_tied_here", "_law_here", "_law_there"]
theorem c__law_ring_row : FnScope n__law_ring_row ["_law_world", "_law_spot", "_law_ring"] (defScope s__law_ring_row) := ⟨rfl, rfl, rfl, by decide +kernel, rfl, by decide +kernel, by decide +kernel⟩
abbrev s__law_star_row : Stmt := topS 66
abbrev n__law_star_row : List Str := ["_law_world", "_law_spot", "_law_corner", "_law_found", "_law_cell", "_law_inner", "_law_k", "_law_fits", "_law_ones"]
theorem c__law_star_row : FnScope n__law_star_row ["_law_world", "_law_spot", "_law_corner"] (defScope s__law_star_row) := ⟨rfl, rfl, rfl, by decide +kernel, rfl, by decide +kernel, by decide +kernel⟩
abbrev s__law_planted : Stmt := topS 67
abbrev n__law_planted : List Str := ["_law_bag_here", "_law_many", "_law_size", "_law_order", "_law_corner", "_law_free", "_law_is_ring", "_law_lots", "_law_k", "_law_out", "_law_extra", "_law_turn", "_law_spot", "_law_sizes", "_law_world", "_law_each"]
theorem c__law_planted : FnScope n__law_planted ["_law_bag_here"] (defScope s__law_planted) := ⟨rfl, rfl, rfl, by decide +kernel, rfl, by decide +kernel, by decide +kernel⟩
abbrev s__law_smooth : Stmt := topS 68
abbrev n__law_smooth : List Str := ["_law_bag_here", "_law_world", "_law_rows", "_law_spot", "_law_kept", "_law_cells_here", "_law_due", "_law_given", "_law_cell", "_law_whole", "_law_each"]
theorem c__law_smooth : FnScope n__law_smooth ["_law_bag_here"] (defScope s__law_smooth) := ⟨rfl, rfl, rfl, by decide +kernel, rfl, by decide +kernel, by decide +kernel⟩
abbrev s__law_tied : Stmt := topS 69
abbrev n__law_tied : List Str := ["_law_bag_here", "_law_world", "_law_rows", "_law_due", "_law_given", "_law_barred", "_law_spot", "_law_cell"]
theorem c__law_tied : FnScope n__law_tied ["_law_bag_here"] (defScope s__law_tied) := ⟨rfl, rfl, rfl, by decide +kernel, rfl, by decide +kernel, by decide +kernel⟩
abbrev s_law : Stmt := topS 70
abbrev n_law : List Str := ["_law_script", "_law_turn", "_law_bag_here"]
theorem c_law : FnScope n_law ["_law_script"] (defScope s_law) := ⟨rfl, rfl, rfl, by decide +kernel, rfl, by decide +kernel, by decide +kernel⟩
end BT

/-! ## text P1 -/
set_option Elab.async false
set_option linter.all false
set_option maxRecDepth 100000
set_option maxHeartbeats 4000000
/-! P1: values, scenework. -/
namespace BT
open PySem PySem.Spec PyProof.Rows L2 DL
/-- the built-in names are not given away -/
structure Nb (mg : Str → Option Value) : Prop where
  isinstance : mg "isinstance" = none
  int : mg "int" = none
  bool : mg "bool" = none
  tuple : mg "tuple" = none
  list : mg "list" = none
  set : mg "set" = none
  len : mg "len" = none
  all : mg "all" = none
  any : mg "any" = none
  range : mg "range" = none
  zip : mg "zip" = none
  enumerate : mg "enumerate" = none
  sorted : mg "sorted" = none
  min : mg "min" = none
  max : mg "max" = none
  sum : mg "sum" = none
  abs : mg "abs" = none
  divmod : mg "divmod" = none
  repr : mg "repr" = none
theorem k_ii (K : PySem.W.Frag) : PySem.W.kitOne K (.type "int") (.type "int") = some true := kit_ty (by decide +kernel)
theorem k_ib (K : PySem.W.Frag) : PySem.W.kitOne K (.type "int") (.type "bool") = some false := kit_ty (by decide +kernel)
theorem k_tt (K : PySem.W.Frag) : PySem.W.kitOne K (.type "tuple") (.type "tuple") = some true := kit_ty (by decide +kernel)
theorem b_int : bootBuiltins "int" = some (.type "int") := by decide +kernel
theorem b_bool : bootBuiltins "bool" = some (.type "bool") := by decide +kernel
theorem b_tuple : bootBuiltins "tuple" = some (.type "tuple") := by decide +kernel

/-! ### promises -/
abbrev PT := List PyData → (PyData → Prop) → Prop
/-- a function on encoded things -/
def fnT {α : Type} (args : α → List PyData) (pre : α → Prop) (res : α → PyData) : PT := fun ds R => ∃ x, ds = args x ∧ pre x ∧ R = (fun d => d = res x)
def T_is_whole : PT := fnT (fun i : Int => [.int i]) (fun _ => True) (fun _ => .bool true)
def T_is_between : PT := fnT (fun p : Int × Int × Int => [.int p.1, .int p.2.1, .int p.2.2]) (fun _ => True) (fun p => .bool (decide (p.2.1 ≤ p.1) && decide (p.1 ≤ p.2.2)))
def T_is_tuple_of : PT := fnT (fun p : List PyData × Nat => [.tuple p.1, dn p.2]) (fun _ => True) (fun p => .bool (decide (p.1.length = p.2)))
def T_is_lot_of : PT := fnT (fun p : List Nat × Nat => [tn p.1, dn p.2]) (fun p => AscI p.1 ∧ (∀ k ∈ p.1, k < p.2) ∧ p.1.length ≤ 1000) (fun _ => .bool true)
def T_is_part : PT := fnT (fun p : List Nat × List Nat => [tn p.1, tn p.2]) (fun p => p.1.length ≤ 1000) (fun p => .bool (p.1.all fun k => decide (k ∈ p.2)))
def T_product_of : PT := fnT (fun l : List Nat => [tn l]) (fun l => ∀ i, prod (l.take i) ≤ 1000) (fun l => dn (prod l))
section
variable {P : Program} {w : World} {K : PySem.W.Frag} {mg : Str → Option Value} {base : Heap}
theorem p_is_whole (D : DefAt K mg "is_whole" s_is_whole) (B : Nb mg) : Cal P w K mg base "is_whole" 1 ["value"] (spD T_is_whole) := by
  refine fn_D D c_is_whole (fun ds R ⟨i, h, _⟩ => by rw [h]; rfl) (fun _ _ _ _ _ _ us hl => match us, hl with | [_], _ => rfl) fun f cdv A outer s H E G0 H0 hr ds R ⟨i, h1, _, h2⟩ => ?_
  subst h1 h2
  exact s_ret (e_and (k1 := true) (k2 := true) (e_isi (e_var 0 rfl) B.isinstance B.int b_int k_ii) fun _ => e_one (e_not (k := false) (e_isi (e_var 0 rfl) B.isinstance B.bool b_bool k_ib)))
theorem p_is_between (D : DefAt K mg "is_between" s_is_between) (C : Cal P w K mg base "is_whole" 1 ["value"] (spD T_is_whole)) : Cal P w K mg base "is_between" 2 ["value", "low", "high"] (spD T_is_between) := by
  refine fn_D D c_is_between (fun ds R ⟨i, h, _⟩ => by rw [h]; rfl) (fun _ _ _ _ _ _ us hl => match us, hl with | [_, _, _], _ => rfl) fun f cdv A outer s H E G0 H0 hr ds R ⟨⟨i, lo, hi⟩, h1, _, h2⟩ => ?_
  subst h1 h2
  exact s_ret (v_is (e_and (k1 := true) (e_cal C hr (by decide) (a_dv (e_var 0 rfl) a_nil) (fun ds q => ⟨i, q, trivial, rfl⟩)) fun _ => e_one (e_chain op_le op_le (e_var 1 rfl) (e_var 0 rfl) (e_var 2 rfl) d_intcmp d_intcmp)) (by simp))
theorem p_is_tuple_of (D : DefAt K mg "is_tuple_of" s_is_tuple_of) (B : Nb mg) : Cal P w K mg base "is_tuple_of" 1 ["value", "many"] (spD T_is_tuple_of) := by
  refine fn_D D c_is_tuple_of (fun ds R ⟨i, h, _⟩ => by rw [h]; rfl) (fun _ _ _ _ _ _ us hl => match us, hl with | [_, _], _ => rfl) fun f cdv A outer s H E G0 H0 hr ds R ⟨⟨xs, n⟩, h1, _, h2⟩ => ?_
  subst h1 h2
  exact s_ret (v_is (e_and (k1 := true) (e_isi (e_var 0 rfl) B.isinstance B.tuple b_tuple k_tt) fun _ => e_one (v_eqE hr.units pl_dn (by decide) (fun _ _ => dn_inj) (v_len B.len (e_var 0 rfl) (.inr rfl) rfl) (e_var 1 rfl))) (by simp))
theorem p_is_lot_of (D : DefAt K mg "is_lot_of" s_is_lot_of) (B : Nb mg) (C : Cal P w K mg base "is_between" 2 ["value", "low", "high"] (spD T_is_between)) : Cal P w K mg base "is_lot_of" 3 ["value", "many"] (spD T_is_lot_of) := by
  refine fn_D D c_is_lot_of (fun ds R ⟨i, h, _⟩ => by rw [h]; rfl) (fun _ _ _ _ _ _ us hl => match us, hl with | [_, _], _ => rfl) fun f cdv A outer s H E G0 H0 hr ds R ⟨⟨l, n⟩, h1, ⟨h3, h4, h5⟩, h2⟩ => ?_
  subst h1 h2
  dsimp only at h3 h4 h5 ⊢
  refine s_ifF (t_is (t_or (k1 := false) (k2 := false) (t_notV (t_call (k := true) (e_isi (e_var 0 rfl) B.isinstance B.tuple b_tuple k_tt))) (fun _ => t_notV (t_call (k := true) (v_is (e_all (bs := l.map fun _ => true) B.all rfl
    (v_lst (o_map1 2 c_is_lot_of (iv_tup (e_var 0 rfl)) (by omega) (f := fun k => .bool true) (fun x hx _ _ _ _ _ =>
      v_is (e_cal C (hr.mono (by decide)) (Nat.le_refl _) (a_dv (e_var 2 rfl) (a_dv e_int (a_dv (v_sub (e_var 1 rfl) e_int) a_nil))) (fun ds q => ⟨⟨(x : Int), 0, (n : Int) - 1⟩, q, trivial, rfl⟩)) ?_)) ?_)) ?_)))) rfl) ?_
  · have := h4 x hx
    simp; omega
  · rw [List.map_map]; rfl
  · simp
  · refine s_ret (v_is (e_all (bs := (l.zip l.tail).map fun p => decide (p.1 < p.2)) B.all rfl (v_lst (o_map2 3 4 c_is_lot_of (i_next (enc := dn) (l := l) (e_var 0 rfl) (e_var 0 rfl) B.zip) (by rw [List.length_zip]; omega) (f := fun p => .bool (decide (p.1 < p.2))) (fun x hx _ _ _ _ _ =>
      v_is (v_lt (e_var 3 rfl) (e_var 4 rfl)) ?_)) ?_)) ?_)
    · simp
    · rw [List.map_map]; rfl
    · have := pairwise_next h3
      simp only [List.all_map, PyData.bool.injEq, List.all_eq_true]
      intro p hp
      simpa using this p hp
theorem p_is_part (D : DefAt K mg "is_part" s_is_part) (B : Nb mg) : Cal P w K mg base "is_part" 1 ["one", "two"] (spD T_is_part) := by
  refine fn_D D c_is_part (fun ds R ⟨i, h, _⟩ => by rw [h]; rfl) (fun _ _ _ _ _ _ us hl => match us, hl with | [_, _], _ => rfl) fun f cdv A outer s H E G0 H0 hr ds R ⟨⟨a, b⟩, h1, h3, h2⟩ => ?_
  subst h1 h2
  dsimp only at h3 ⊢
  refine s_ret (v_is (e_all (bs := a.map fun k => decide (k ∈ b)) B.all rfl (v_lst (o_map1 2 c_is_part (iv_tup (e_var 0 rfl)) (by omega) (f := fun k => .bool (decide (k ∈ b))) (fun x hx _ _ _ _ _ => v_in (e_var 2 rfl) (e_var 1 rfl) (.inl rfl))) ?_)) ?_)
  · rw [List.map_map]; rfl
  · rw [List.all_map]; rfl
theorem p_product_of (D : DefAt K mg "product_of" s_product_of) : Cal P w K mg base "product_of" 1 ["numbers"] (spD T_product_of) := by
  refine fn_D D c_product_of (fun ds R ⟨i, h, _⟩ => by rw [h]; rfl) (fun _ _ _ _ _ _ us hl => match us, hl with | [_], _ => rfl) fun f cdv A outer s H E G0 H0 hr ds R ⟨l, h1, h3, h2⟩ => ?_
  subst h1 h2
  refine s_setV 1 e_int ?_ c_product_of.nd
  refine s_for (fun i ρ => ∃ x, ρ = [some (.dat (tn l)), some (.dat (dn (prod (l.take i)))), x]) rfl (iv_tup (e_var 0 rfl)) (tg_one (i := 2) c_product_of.nd rfl (Or.inl rfl)) (Nat.le_of_ble_eq_true rfl) (fun _ _ => trivial) PassesOwn.never ⟨none, rfl⟩ ?_ ?_
  · rintro i x ρ' hx ⟨y, rfl⟩
    have hp := h3 i
    refine s_setV 1 (v_is (v_mul (e_var 1 rfl) (e_var 2 rfl) (.inl ⟨by omega, by omega⟩)) ?_) (s_nil ⟨_, rfl⟩) c_product_of.nd
    show PyData.int _ = PyData.int _
    congr 1
    rw [List.take_add_one, hx]
    show (_ : Int) = ((prod (l.take i ++ [x]) : Nat) : Int)
    unfold prod
    rw [List.foldl_append]
    simp
  · rintro ρ' ⟨y, rfl⟩
    refine s_ret (v_is (e_var 1 rfl) ?_)
    rw [List.take_length]
end
end BT

/-! ## text P2 -/
set_option Elab.async false
set_option linter.all false
set_option maxRecDepth 100000
set_option maxHeartbeats 2000000
/-! P2: scenarios. -/
namespace BT
open PySem PySem.Spec PyProof.Rows L2 DL
theorem prod_take : ∀ (l : List Nat) (i : Nat), (∀ s ∈ l, 1 ≤ s) → prod (l.take i) ≤ prod l := by
  intro l i h
  have key : ∀ n (l : List Nat), l.length = n → (∀ s ∈ l, 1 ≤ s) → prod (l.take i) ≤ prod l := by
    intro n
    induction n with
    | zero => intro l hl _; have : l = [] := List.eq_nil_of_length_eq_zero hl; subst this; simp
    | succ n ih =>
      intro l hl h
      rcases List.eq_nil_or_concat l with e | ⟨m, x, e⟩
      · subst e; simp
      · subst e
        rw [List.concat_eq_append] at *
        rw [List.length_append] at hl
        by_cases hi : i ≤ m.length
        · rw [List.take_append_of_le_length hi, prod_app]
          have h1 := ih m (by simpa using hl) fun s hs => h s (List.mem_append_left _ hs)
          have h2 := h x (List.mem_append_right _ (List.mem_singleton.mpr rfl))
          exact Nat.le_trans h1 (Nat.le_mul_of_pos_right _ h2)
        · rw [List.take_of_length_le (by rw [List.length_append, List.length_singleton]; omega)]
          exact Nat.le_refl _
  exact key _ l rfl h
def T_are_outcomes : PT := fnT (fun l : List Nat => [tn l]) (fun l => (1 ≤ l.length ∧ l.length ≤ 6) ∧ (∀ s ∈ l, 2 ≤ s ∧ s ≤ 4) ∧ prod l ≤ 64) (fun _ => .bool true)
abbrev Wd := List Nat × List (List Nat)
def wd (w : Wd) : PyData := .tuple [tn w.1, ttn w.2]
def Wd.Ok (w : Wd) : Prop := WorldOk w.1 w.2
def T_are_contexts : PT := fnT (fun w : Wd => [ttn w.2, dn w.1.length]) (fun w => w.Ok ∧ w.2.length ≤ 100) (fun _ => .bool true)
def T_is_scenario_by : PT := fnT (fun w : Wd => [wd w]) (fun w => w.Ok ∧ w.2.length ≤ 100) (fun _ => .bool true)
def T_sections_by : PT := fnT (fun p : Wd × List Nat => [wd p.1, tn p.2]) (fun p => (∀ k ∈ p.2, k < p.1.1.length) ∧ (∀ i, (cells (szs p.1.1 (p.2.take i))).length ≤ 1000) ∧ (∀ s ∈ p.1.1, s ≤ 4) ∧ p.2.length ≤ 1000) (fun p => ltn (secs p.1.1 p.2))
def T_all_of : PT := fnT (fun w : Wd => [wd w]) (fun w => w.1.length ≤ 1000) (fun w => tn (List.range w.1.length))
def T_part_of : PT := fnT (fun p : List Nat × List Nat × List Nat => [tn p.1, tn p.2.1, tn p.2.2]) (fun p => p.1.length = p.2.1.length ∧ (∀ k ∈ p.2.2, k ∈ p.2.1) ∧ p.2.2.length ≤ 1000) (fun p => tn (part p.1 p.2.1 p.2.2))
def T_shared_by : PT := fnT (fun p : List Nat × List Nat => [tn p.1, tn p.2]) (fun p => p.1.length ≤ 1000) (fun p => tn (common p.1 p.2))
section
variable {P : Program} {w : World} {K : PySem.W.Frag} {mg : Str → Option Value} {base : Heap}
theorem p_are_outcomes (D : DefAt K mg "are_outcomes" s_are_outcomes) (B : Nb mg) {t1 t2 t3 : Tok} (g1 : mg "MOST_OBSERVABLES" = some (.int 6 t1)) (g2 : mg "MOST_OUTCOMES" = some (.int 4 t2)) (g3 : mg "MOST_GLOBAL" = some (.int 64 t3))
    (C : Cal P w K mg base "is_between" 2 ["value", "low", "high"] (spD T_is_between)) (C2 : Cal P w K mg base "product_of" 1 ["numbers"] (spD T_product_of)) : Cal P w K mg base "are_outcomes" 3 ["value"] (spD T_are_outcomes) := by
  refine fn_D D c_are_outcomes (fun ds R ⟨i, h, _⟩ => by rw [h]; rfl) (fun _ _ _ _ _ _ us hl => match us, hl with | [_], _ => rfl) fun f cdv A outer s H E G0 H0 hr ds R ⟨l, h1, ⟨h3, h4, h5⟩, h2⟩ => ?_
  subst h1 h2
  dsimp only at h3 h4 h5 ⊢
  refine s_ifF (t_is (t_or (k1 := false) (k2 := false) (t_notV (t_call (k := true) (e_isi (e_var 0 rfl) B.isinstance B.tuple b_tuple k_tt))) (fun _ => t_notV (t_call (k := true) (v_is (e_cal C hr (by decide) (a_dv (v_len B.len (e_var 0 rfl) (.inr rfl) rfl) (a_dv e_int (a_dv (e_glob g1) a_nil))) (fun ds q => ⟨⟨(l.length : Int), 1, 6⟩, by rw [q]; simp [dn], trivial, rfl⟩)) ?_)))) rfl) ?_
  · simp; omega
  · refine s_ret (v_is (e_and (k1 := true) (k2 := true) (v_is (e_all (bs := l.map fun _ => true) B.all rfl (v_lst (o_map1 1 c_are_outcomes (iv_tup (e_var 0 rfl)) (by omega) (f := fun k => .bool true) (fun x hx _ _ _ _ _ =>
      v_is (e_cal C (hr.mono (by decide)) (Nat.le_refl _) (a_dv (e_var 1 rfl) (a_dv e_int (a_dv (e_glob g2) a_nil))) (fun ds q => ⟨⟨(x : Int), 2, 4⟩, q, trivial, rfl⟩)) ?_)) ?_)) ?_) (fun _ => e_one (v_is (v_le (e_cal C2 hr (by decide) (a_dv (e_var 0 rfl) a_nil) (fun ds q => ⟨l, q, fun i => ?_, rfl⟩)) (e_glob g3)) ?_))) rfl)
    · have := h4 x hx
      simp; omega
    · rw [List.map_map]; rfl
    · simp
    · exact Nat.le_trans (prod_take l i fun s hs => by have := h4 s hs; omega) (by omega)
    · simp; omega
theorem p_shared_by (D : DefAt K mg "shared_by" s_shared_by) (B : Nb mg) : Cal P w K mg base "shared_by" 1 ["one", "two"] (spD T_shared_by) := by
  refine fn_D D c_shared_by (fun ds R ⟨i, h, _⟩ => by rw [h]; rfl) (fun _ _ _ _ _ _ us hl => match us, hl with | [_, _], _ => rfl) fun f cdv A outer s H E G0 H0 hr ds R ⟨⟨a, b⟩, h1, h3, h2⟩ => ?_
  subst h1 h2
  dsimp only at h3 ⊢
  exact s_ret (v_tupL B.tuple (v_lst (o_flt1 2 c_shared_by (iv_tup (e_var 0 rfl)) (by omega) (p := fun k => decide (k ∈ b)) (f := dn) (fun x hx _ _ _ _ _ => ts_one (t_in (e_var 2 rfl) (e_var 1 rfl) (.inl rfl))) (fun x hx _ _ _ _ _ _ => e_var 2 rfl)) rfl))
theorem p_part_of (D : DefAt K mg "part_of" s_part_of) (B : Nb mg) : Cal P w K mg base "part_of" 1 ["section", "lot", "less"] (spD T_part_of) := by
  refine fn_D D c_part_of (fun ds R ⟨i, h, _⟩ => by rw [h]; rfl) (fun _ _ _ _ _ _ us hl => match us, hl with | [_, _, _], _ => rfl) fun f cdv A outer s H E G0 H0 hr ds R ⟨⟨cl, lot, less⟩, h1, ⟨h3, h4, h5⟩, h2⟩ => ?_
  subst h1 h2
  dsimp only at h3 h4 h5 ⊢
  refine s_ret (v_tupL B.tuple (v_lst (o_map1 3 c_part_of (iv_tup (e_var 2 rfl)) (by omega) (f := fun k => dn (cl.getD (lot.idxOf k) 0)) (fun x hx _ _ _ _ _ => v_at (l := cl) (e_var 0 rfl) (e_tupIx (e_var 1 rfl) (e_var 3 rfl) (h4 x hx)) ?_)) ?_))
  · have hl : lot.idxOf x < cl.length := by rw [h3]; exact List.idxOf_lt_length_iff.mpr (h4 x hx)
    rw [List.getD_eq_getElem?_getD, List.getElem?_eq_getElem hl]; rfl
  · unfold part; rw [List.map_map]; rfl
theorem p_all_of (D : DefAt K mg "all_of" s_all_of) (B : Nb mg) : Cal P w K mg base "all_of" 1 ["scenario"] (spD T_all_of) := by
  refine fn_D D c_all_of (fun ds R ⟨i, h, _⟩ => by rw [h]; rfl) (fun _ _ _ _ _ _ us hl => match us, hl with | [_], _ => rfl) fun f cdv A outer s H E G0 H0 hr ds R ⟨wo, h1, h3, h2⟩ => ?_
  subst h1 h2
  dsimp only at h3 ⊢
  exact s_ret (e_tupRange rfl B.tuple B.range (v_len B.len (v_ixT (d := tn wo.1) (i := 0) (e_var 0 rfl) e_int rfl) (.inr rfl) (List.length_map _)) (by omega))
theorem p_sections_by (D : DefAt K mg "sections_by" s_sections_by) (B : Nb mg) : Cal P w K mg base "sections_by" 1 ["scenario", "lot"] (spD T_sections_by) := by
  refine fn_D D c_sections_by (fun ds R ⟨i, h, _⟩ => by rw [h]; rfl) (fun _ _ _ _ _ _ us hl => match us, hl with | [_, _], _ => rfl) fun f cdv A outer s H E G0 H0 hr ds R ⟨⟨wo, lot⟩, h1, ⟨h3, h4, h4', hll⟩, h2⟩ => ?_
  subst h1 h2
  dsimp only at h3 h4 h4' hll ⊢
  refine s_setV 2 (v_lstO (ds' := [tn []]) (o_lst (Q := fun ds => ds = [tn []]) (a_dv (v_tup a_nil) a_nil) (fun ds q => by rw [q]; exact Nat.le_of_ble_eq_true rfl)) rfl) ?_ c_sections_by.nd
  refine s_for (fun i ρ => ∃ x y z, ρ = [some (.dat (wd wo)), some (.dat (tn lot)), some (.dat (ltn (secs wo.1 (lot.take i)))), x, y, z]) rfl (iv_tup (e_var 1 rfl)) (tg_one (i := 3) c_sections_by.nd rfl (Or.inr rfl)) (Nat.le_of_ble_eq_true rfl) (fun _ _ => trivial) PassesOwn.never ⟨none, none, none, rfl⟩ ?_ ?_
  · rintro i x ρ' hx ⟨y, z, u, rfl⟩
    have hxl : x ∈ lot := List.mem_of_getElem? hx
    have hsz : x < wo.1.length := h3 x hxl
    have hnext : secs wo.1 (lot.take (i + 1)) = (secs wo.1 (lot.take i)).flatMap fun e => (List.range (wo.1.getD x 0)).map fun h => e ++ [h] := by
      rw [List.take_add_one, hx]
      unfold secs szs cells
      rw [List.map_append, List.foldl_append]
      rfl
    have h5 := h4 i
    have h6 : wo.1.getD x 0 ≤ 4 := by
      rw [List.getD_eq_getElem?_getD, List.getElem?_eq_getElem hsz]
      exact h4' _ (List.getElem_mem hsz)
    refine s_setLc 2 (lc_is (o_two 4 5 4 c_sections_by (iv_list (e_var 2 rfl)) (ys := fun _ => List.range (wo.1.getD x 0)) (enc1 := dn) (p1 := fun _ _ => true) (f := fun e h => tn (e ++ [h]))
      (fun e he _ _ _ _ _ => iv_range1 (v_at (l := wo.1) (v_ixT (d := tn wo.1) (i := 0) (e_var 0 rfl) e_int rfl) (e_var 3 rfl) ?_) (by omega) B.range) (fun e he => ?_) ?_
      (fun _ _ _ _ _ _ _ _ _ => ts_nil) (fun e he h hh _ _ _ _ _ _ => ?_)) ?_) (s_nil ⟨_, _, _, rfl⟩)
    · rw [List.getD_eq_getElem?_getD, List.getElem?_eq_getElem hsz]; rfl
    · rw [List.length_range]; exact h6
    · unfold secs; omega
    · refine v_is (e_op op_catX (e_var 4 rfl) (v_tup (a_dv (e_var 5 rfl) a_nil)) fun d1 d2 q1 q2 => ?_) (d := .tuple (e.map dn ++ [dn h])) ?_
      · rw [q1, q2]
        refine d_catT ?_
        have := cells_length he
        unfold szs at this
        rw [List.length_map, List.length_take] at this
        rw [List.length_map, List.length_singleton]
        omega
      · unfold tn; rw [List.map_append]; rfl
    · rw [hnext]
      rw [List.map_flatMap]
      congr 1
      funext e
      rw [List.filter_eq_self.mpr (fun _ _ => rfl), List.map_map]; rfl
  · rintro ρ' ⟨y, z, u, rfl⟩
    refine s_ret (v_is (e_var 2 rfl) ?_)
    rw [List.take_length]
end
end BT

/-! ## text P3 -/
set_option Elab.async false
set_option linter.all false
set_option maxRecDepth 100000
set_option maxHeartbeats 4000000
/-! P3: scenarios and supports looked at. -/
namespace BT
open PySem PySem.Spec PyProof.Rows L2 DL
theorem asc_len {l : List Nat} {n : Nat} (h : AscI l) (hn : ∀ k ∈ l, k < n) : l.length ≤ n := by
  have nd : l.Nodup := h.imp fun {a b} q => by omega
  have := L2.nat_nodup_len l (List.range n) nd fun x hx => List.mem_range.mpr (hn x hx)
  rwa [List.length_range] at this
abbrev Su := List (List (List Nat))
/-- a world and a support of it, both right -/
structure Wd.Has (w : Wd) (s : Su) : Prop where
  ok : w.Ok
  few : w.2.length ≤ 100
  sup : SupOk w.1 w.2 s
def T_globals_of : PT := fnT (fun w : Wd => [wd w]) (fun w => w.Ok) (fun w => ltn (secs w.1 (List.range w.1.length)))
def T_check_scenario : PT := fnT (fun w : Wd => [wd w]) (fun w => w.Ok ∧ w.2.length ≤ 100) (fun _ => .none)
def T_check_between : PT := fnT (fun p : Int × Int × Int => [.int p.1, .int p.2.1, .int p.2.2]) (fun p => p.2.1 ≤ p.1 ∧ p.1 ≤ p.2.2) (fun _ => .none)
def T_is_section_of : PT := fnT (fun p : Wd × List Nat × List Nat => [wd p.1, tn p.2.1, tn p.2.2]) (fun p => CellOk p.1.1 p.2.1 p.2.2 ∧ (∀ k ∈ p.2.1, k < p.1.1.length) ∧ p.2.1.length ≤ 1000) (fun _ => .bool true)
def T_are_sections : PT := fnT (fun p : Wd × List Nat × List (List Nat) => [wd p.1, tn p.2.1, ttn p.2.2]) (fun p => RowOk p.1.1 p.2.1 p.2.2 ∧ (∀ k ∈ p.2.1, k < p.1.1.length) ∧ p.2.1.length ≤ 1000) (fun _ => .bool true)
def T_wrong_in_support : PT := fnT (fun p : Wd × Su => [wd p.1, tttn p.2]) (fun p => p.1.Has p.2) (fun _ => .list [])
section
variable {P : Program} {w : World} {K : PySem.W.Frag} {mg : Str → Option Value} {base : Heap}
theorem p_are_contexts (D : DefAt K mg "are_contexts" s_are_contexts) (B : Nb mg)
    (C : Cal P w K mg base "is_lot_of" 3 ["value", "many"] (spD T_is_lot_of)) (C2 : Cal P w K mg base "is_part" 1 ["one", "two"] (spD T_is_part)) : Cal P w K mg base "are_contexts" 4 ["value", "many"] (spD T_are_contexts) := by
  refine fn_D D c_are_contexts (fun ds R ⟨i, h, _⟩ => by rw [h]; rfl) (fun _ _ _ _ _ _ us hl => match us, hl with | [_, _], _ => rfl) fun f cdv A outer s H E G0 H0 hr ds R ⟨⟨sz, l⟩, h1, ⟨h3, h4⟩, h2⟩ => ?_
  subst h1 h2
  dsimp only at h3 h4 ⊢
  obtain ⟨hs, he, hp, ha, hlt, hne, hasc, hpart, hall⟩ := h3
  dsimp only at hs he hp ha hlt hne hasc hpart hall
  have hlen : ∀ c ∈ l, c.length ≤ 1000 := fun c hc => Nat.le_trans (asc_len (ha c hc) (hlt c hc)) (by omega)
  refine s_ifF (t_is (t_or (k1 := false) (k2 := false) (t_notV (t_call (k := true) (e_isi (e_var 0 rfl) B.isinstance B.tuple b_tuple k_tt))) (fun _ => t_notV (t_call (k := true) (v_is (e_all (bs := l.map fun _ => true) B.all rfl
    (v_lst (o_map1 2 c_are_contexts (iv_tup (e_var 0 rfl)) (by omega) (f := fun k => .bool true) (fun x hx _ _ _ _ _ =>
      e_and (k1 := true) (k2 := true) (e_cal C (hr.mono (by decide)) (Nat.le_refl _) (a_dv (e_var 2 rfl) (a_dv (e_var 1 rfl) a_nil)) (fun ds q => ⟨⟨x, sz.length⟩, q, ⟨ha x hx, hlt x hx, hlen x hx⟩, rfl⟩)) (fun _ => e_one (v_is (v_neE (enc := tn) (x := x) (y := []) hr.units pl_tn (by decide) (fun _ _ => tn_inj) (e_var 2 rfl) (v_tup a_nil)) ?_)))) ?_)) ?_)))) rfl) ?_
  · rw [decide_eq_false (hne x hx)]; rfl
  · rw [List.map_map]; rfl
  · simp
  refine s_ifF (t_is (t_notV (t_call (k := true) (v_is (e_all (bs := (l.zip l.tail).map fun p => ltN p.1 p.2) B.all rfl (v_lst (o_map2 3 4 c_are_contexts (i_next (enc := tn) (l := l) (e_var 0 rfl) (e_var 0 rfl) B.zip) (by rw [List.length_zip]; omega) (f := fun p => .bool (ltN p.1 p.2)) (fun x hx _ _ _ _ _ =>
      v_ltT (Nat.lt_of_le_of_lt (Nat.le_add_right _ _) hr.units) (e_var 3 rfl) (e_var 4 rfl))) ?_)) ?_))) rfl) ?_
  · rw [List.map_map]; rfl
  · have := pairwise_next hasc
    rw [List.all_map]
    congr 1
    rw [List.all_eq_true]
    intro p hp
    exact this p hp
  refine s_ifF (t_is (t_call (v_is (e_any (bs := l.flatMap fun x => (l.filter fun y => !decide (x = y)).map fun y => x.all fun k => decide (k ∈ y)) B.any rfl (v_lst (o_two 3 4 100 c_are_contexts (iv_tup (e_var 0 rfl)) (ys := fun _ => l) (enc1 := tn) (p1 := fun x y => !decide (x = y)) (f := fun x y => .bool (x.all fun k => decide (k ∈ y)))
      (fun x hx _ _ _ _ _ => iv_tup (e_var 0 rfl)) (fun _ _ => h4) (by have := Nat.mul_le_mul_right 100 h4; omega)
      (fun x hx y hy _ _ _ _ _ => ts_one (t_neE (enc := tn) (x := x) (y := y) hr.units pl_tn (by decide) (fun _ _ => tn_inj) (e_var 3 rfl) (e_var 4 rfl)))
      (fun x hx y hy hxy _ _ _ _ _ => e_cal C2 (hr.mono (by decide)) (Nat.le_refl _) (a_dv (e_var 3 rfl) (a_dv (e_var 4 rfl) a_nil)) (fun ds q => ⟨⟨x, y⟩, q, hlen x hx, rfl⟩))) ?_)) rfl)) ?_) ?_
  · rw [List.map_flatMap]
    congr 1
    funext x
    rw [List.map_map]; rfl
  · rw [List.any_eq_false]
    intro b hb
    obtain ⟨x, hx, hb⟩ := List.mem_flatMap.mp hb
    obtain ⟨y, hy, rfl⟩ := List.mem_map.mp hb
    obtain ⟨hy1, hy2⟩ := List.mem_filter.mp hy
    have := hpart x hx y hy1 (by simpa using hy2)
    simpa using this
  refine s_ret (v_is (e_all (bs := (List.range sz.length).map fun _ => true) B.all rfl (v_lst (o_map1 2 c_are_contexts (iv_range1 (e_var 1 rfl) (by omega) B.range) (by rw [List.length_range]; omega) (f := fun k => .bool true) (fun x hx _ _ _ _ _ =>
      v_is (e_any (bs := l.map fun c => decide (x ∈ c)) B.any rfl (v_lst (n_map1 5 c_are_contexts.nd (iv_tup (e_var 0 rfl)) (by omega) (f := fun c => .bool (decide (x ∈ c))) (fun y hy _ _ _ _ _ => v_in (e_var 2 rfl) (e_var 5 rfl) (.inl rfl)) (ok := by kernel_rfl)) ?_)) ?_) (hloc := fun _ _ => Or.inr rfl)) ?_)) ?_)
  · rw [List.map_map]; rfl
  · obtain ⟨c, hc, hk⟩ := hall x (List.mem_range.mp hx)
    congr 1
    rw [List.any_map, List.any_eq_true]
    exact ⟨c, hc, by simpa using hk⟩
  · rw [List.map_map]; rfl
  · simp
theorem p_is_scenario_by (D : DefAt K mg "is_scenario_by" s_is_scenario_by) (B : Nb mg) (C : Cal P w K mg base "is_tuple_of" 1 ["value", "many"] (spD T_is_tuple_of)) (C2 : Cal P w K mg base "are_outcomes" 3 ["value"] (spD T_are_outcomes))
    (C3 : Cal P w K mg base "are_contexts" 4 ["value", "many"] (spD T_are_contexts)) : Cal P w K mg base "is_scenario_by" 5 ["value"] (spD T_is_scenario_by) := by
  refine fn_D D c_is_scenario_by (fun ds R ⟨i, h, _⟩ => by rw [h]; rfl) (fun _ _ _ _ _ _ us hl => match us, hl with | [_], _ => rfl) fun f cdv A outer s H E G0 H0 hr ds R ⟨wo, h1, h3, h2⟩ => ?_
  subst h1 h2
  dsimp only at h3 ⊢
  exact s_ret (e_and (k1 := true) (k2 := true) (e_cal C hr (by decide) (a_dv (e_var 0 rfl) (a_dv e_int a_nil)) (fun ds q => ⟨⟨[tn wo.1, ttn wo.2], 2⟩, q, trivial, rfl⟩))
    (fun _ => e_and (k1 := true) (k2 := true) (e_cal C2 hr (by decide) (a_dv (v_ixT (d := tn wo.1) (i := 0) (e_var 0 rfl) e_int rfl) a_nil) (fun ds q => ⟨wo.1, q, ⟨h3.1.some, h3.1.each, h3.1.prod⟩, rfl⟩))
    (fun _ => e_one (e_cal C3 hr (by decide) (a_dv (v_ixT (d := ttn wo.2) (i := 1) (e_var 0 rfl) e_int rfl) (a_dv (v_len B.len (v_ixT (d := tn wo.1) (i := 0) (e_var 0 rfl) e_int rfl) (.inr rfl) (List.length_map _)) a_nil)) (fun ds q => ⟨wo, q, h3, rfl⟩)))))
theorem szs_range (l : List Nat) : szs l (List.range l.length) = l := by
  unfold szs
  apply List.ext_getElem
  · simp
  · intro i h1 h2
    simp [List.getD_eq_getElem?_getD, List.getElem?_eq_getElem h2]
theorem p_globals_of (D : DefAt K mg "globals_of" s_globals_of) (C : Cal P w K mg base "all_of" 1 ["scenario"] (spD T_all_of)) (C2 : Cal P w K mg base "sections_by" 1 ["scenario", "lot"] (spD T_sections_by)) : Cal P w K mg base "globals_of" 2 ["scenario"] (spD T_globals_of) := by
  refine fn_D D c_globals_of (fun ds R ⟨i, h, _⟩ => by rw [h]; rfl) (fun _ _ _ _ _ _ us hl => match us, hl with | [_], _ => rfl) fun f cdv A outer s H E G0 H0 hr ds R ⟨wo, h1, h3, h2⟩ => ?_
  subst h1 h2
  dsimp only at h3 ⊢
  have h6 := h3.some.2
  have hs := h3.each
  have hp := h3.prod
  exact s_ret (e_cal C2 hr (by decide) (a_dv (e_var 0 rfl) (a_dv (e_cal C hr (by decide) (a_dv (e_var 0 rfl) a_nil) (fun ds q => ⟨wo, q, by omega, rfl⟩)) a_nil)) (fun ds q => ⟨⟨wo, List.range wo.1.length⟩, q, ⟨fun k hk => List.mem_range.mp hk, fun i => by
    rw [cells_count]
    have e : szs wo.1 ((List.range wo.1.length).take i) = wo.1.take i := by
      show List.map _ (List.take i _) = _
      rw [List.map_take]
      exact congrArg (List.take i) (szs_range wo.1)
    rw [e]
    exact Nat.le_trans (prod_take _ _ fun s hs' => by have := hs s hs'; omega) (by omega), fun s hs' => (hs s hs').2, by rw [List.length_range]; omega⟩, rfl⟩))
theorem p_check_scenario (D : DefAt K mg "check_scenario" s_check_scenario) (C : Cal P w K mg base "is_scenario_by" 5 ["value"] (spD T_is_scenario_by)) : Cal P w K mg base "check_scenario" 6 ["value"] (spD T_check_scenario) := by
  refine fn_D D c_check_scenario (fun ds R ⟨i, h, _⟩ => by rw [h]; rfl) (fun _ _ _ _ _ _ us hl => match us, hl with | [_], _ => rfl) fun f cdv A outer s H E G0 H0 hr ds R ⟨wo, h1, h3, h2⟩ => ?_
  subst h1 h2
  exact s_ifF (t_is (t_notV (t_call (k := true) (e_cal C hr (by decide) (a_dv (e_var 0 rfl) a_nil) (fun ds q => ⟨wo, q, h3, rfl⟩)))) rfl) (s_nil rfl)
theorem p_check_between (D : DefAt K mg "check_between" s_check_between) (C : Cal P w K mg base "is_between" 2 ["value", "low", "high"] (spD T_is_between)) : Cal P w K mg base "check_between" 3 ["value", "low", "high"] (spD T_check_between) := by
  refine fn_D D c_check_between (fun ds R ⟨i, h, _⟩ => by rw [h]; rfl) (fun _ _ _ _ _ _ us hl => match us, hl with | [_, _, _], _ => rfl) fun f cdv A outer s H E G0 H0 hr ds R ⟨⟨v, lo, hi⟩, h1, h3, h2⟩ => ?_
  subst h1 h2
  dsimp only at h3 ⊢
  refine s_ifF (t_is (t_notV (t_call (k := true) (v_is (e_cal C hr (by decide) (a_dv (e_var 0 rfl) (a_dv (e_var 1 rfl) (a_dv (e_var 2 rfl) a_nil))) (fun ds q => ⟨⟨v, lo, hi⟩, q, trivial, rfl⟩)) ?_))) rfl) (s_nil rfl)
  simp; exact h3
theorem p_is_section_of (D : DefAt K mg "is_section_of" s_is_section_of) (B : Nb mg) (C : Cal P w K mg base "is_tuple_of" 1 ["value", "many"] (spD T_is_tuple_of)) (C2 : Cal P w K mg base "is_between" 2 ["value", "low", "high"] (spD T_is_between)) : Cal P w K mg base "is_section_of" 3 ["scenario", "lot", "value"] (spD T_is_section_of) := by
  refine fn_D D c_is_section_of (fun ds R ⟨i, h, _⟩ => by rw [h]; rfl) (fun _ _ _ _ _ _ us hl => match us, hl with | [_, _, _], _ => rfl) fun f cdv A outer s H E G0 H0 hr ds R ⟨⟨wo, lot, c⟩, h1, ⟨h3, h4, h5⟩, h2⟩ => ?_
  subst h1 h2
  dsimp only at h3 h4 h5 ⊢
  refine s_ifF (t_is (t_notV (t_call (k := true) (v_is (e_cal C hr (by decide) (a_dv (e_var 2 rfl) (a_dv (v_len B.len (e_var 1 rfl) (.inr rfl) (List.length_map _)) a_nil)) (fun ds q => ⟨⟨c.map dn, lot.length⟩, q, trivial, rfl⟩)) ?_))) rfl) ?_
  · simp; exact h3.len
  refine s_ret (v_is (e_all (bs := (lot.zip c).map fun _ => true) B.all rfl (v_lst (o_map2 3 4 c_is_section_of (xs := lot.zip c) (e1 := fun p => dn p.1) (e2 := fun p => dn p.2) (i_zipE (l := lot) (m := c) (ea := dn) (eb := dn) (e_var 1 rfl) (e_var 2 rfl) B.zip) (by rw [List.length_zip]; omega) (f := fun _ => .bool true) (fun x hx _ _ _ _ _ =>
    v_is (e_cal C2 (hr.mono (by decide)) (Nat.le_refl _) (a_dv (e_var 4 rfl) (a_dv e_int (a_dv (v_sub (v_at (l := wo.1) (v_ixT (d := tn wo.1) (i := 0) (e_var 0 rfl) e_int rfl) (e_var 3 rfl) (x := wo.1.getD x.1 0) ?_) e_int) a_nil))) (fun ds q => ⟨⟨(x.2 : Int), 0, (wo.1.getD x.1 0 : Int) - 1⟩, q, trivial, rfl⟩)) ?_)) ?_)) ?_)
  · have h6 := h4 _ (List.of_mem_zip hx).1
    rw [List.getD_eq_getElem?_getD, List.getElem?_eq_getElem h6]; rfl
  · obtain ⟨i, hi, e⟩ := List.mem_iff_getElem.mp hx
    rw [List.length_zip] at hi
    rw [List.getElem_zip] at e
    have h6 := h3.lt i (by omega) (by omega)
    rw [← e]
    rw [List.getD_eq_getElem?_getD] at h6
    simp; omega
  · rw [List.map_map]; rfl
  · simp
theorem p_are_sections (D : DefAt K mg "are_sections" s_are_sections) (B : Nb mg) (C : Cal P w K mg base "is_section_of" 3 ["scenario", "lot", "value"] (spD T_is_section_of)) : Cal P w K mg base "are_sections" 4 ["scenario", "lot", "value"] (spD T_are_sections) := by
  refine fn_D D c_are_sections (fun ds R ⟨i, h, _⟩ => by rw [h]; rfl) (fun _ _ _ _ _ _ us hl => match us, hl with | [_, _, _], _ => rfl) fun f cdv A outer s H E G0 H0 hr ds R ⟨⟨wo, lot, l⟩, h1, ⟨h3, h4, h5⟩, h2⟩ => ?_
  subst h1 h2
  dsimp only at h3 h4 h5 ⊢
  have few := h3.few
  refine s_ifF (t_is (t_or3 (k1 := false) (k2 := false) (k3 := false) (t_notV (t_call (k := true) (e_isi (e_var 2 rfl) B.isinstance B.tuple b_tuple k_tt))) (fun _ => t_is (t_eqE (enc := ttn) (x := l) (y := []) hr.units pl_ttn (by decide) (fun _ _ => ttn_inj) (e_var 2 rfl) (v_tup a_nil)) ?_) (fun _ _ => t_notV (t_call (k := true) (v_is (e_all (bs := l.map fun _ => true) B.all rfl
    (v_lst (o_map1 3 c_are_sections (iv_tup (e_var 2 rfl)) (by omega) (f := fun k => .bool true) (fun x hx _ _ _ _ _ =>
      e_cal C (hr.mono (by decide)) (Nat.le_refl _) (a_dv (e_var 0 rfl) (a_dv (e_var 1 rfl) (a_dv (e_var 3 rfl) a_nil))) (fun ds q => ⟨⟨wo, lot, x⟩, q, ⟨h3.cell x hx, h4, h5⟩, rfl⟩))) ?_)) ?_)))) rfl) ?_
  · exact decide_eq_false h3.ne
  · rw [List.map_map]; rfl
  · simp
  refine s_ret (v_is (e_all (bs := (l.zip l.tail).map fun p => ltN p.1 p.2) B.all rfl (v_lst (o_map2 4 5 c_are_sections (i_next (enc := tn) (l := l) (e_var 2 rfl) (e_var 2 rfl) B.zip) (by rw [List.length_zip]; omega) (f := fun p => .bool (ltN p.1 p.2)) (fun x hx _ _ _ _ _ =>
      v_ltT (Nat.lt_of_le_of_lt (Nat.le_add_right _ _) hr.units) (e_var 4 rfl) (e_var 5 rfl))) ?_)) ?_)
  · rw [List.map_map]; rfl
  · have := pairwise_next h3.asc
    rw [List.all_map]
    congr 1
    rw [List.all_eq_true]
    intro p hp
    exact this p hp
theorem p_wrong_in_support (D : DefAt K mg "wrong_in_support" s_wrong_in_support) (B : Nb mg) (C : Cal P w K mg base "is_tuple_of" 1 ["value", "many"] (spD T_is_tuple_of)) (C2 : Cal P w K mg base "are_sections" 4 ["scenario", "lot", "value"] (spD T_are_sections)) : Cal P w K mg base "wrong_in_support" 5 ["scenario", "value"] (spD T_wrong_in_support) := by
  refine fn_D D c_wrong_in_support (fun ds R ⟨i, h, _⟩ => by rw [h]; rfl) (fun _ _ _ _ _ _ us hl => match us, hl with | [_, _], _ => rfl) fun f cdv A outer s H E G0 H0 hr ds R ⟨⟨wo, sp⟩, h1, h3, h2⟩ => ?_
  subst h1 h2
  dsimp only at h3 ⊢
  have hl := h3.sup.len
  have few := h3.few
  refine s_ifF (t_is (t_notV (t_call (k := true) (v_is (e_cal C hr (by decide) (a_dv (e_var 1 rfl) (a_dv (v_len B.len (v_ixT (d := ttn wo.2) (i := 1) (e_var 0 rfl) e_int rfl) (.inr rfl) (List.length_map _)) a_nil)) (fun ds q => ⟨⟨sp.map ttn, wo.2.length⟩, q, trivial, rfl⟩)) ?_))) rfl) ?_
  · simp; exact hl
  refine s_ret (v_lstO (o_cut (v_lst (o_flt2 2 3 c_wrong_in_support (xs := wo.2.zipIdx) (e1 := fun p => dn p.2) (e2 := fun p => tn p.1) (i_enumE (l := wo.2) (enc := tn) (v_ixT (d := ttn wo.2) (i := 1) (e_var 0 rfl) e_int rfl) B.enumerate) (by rw [List.length_zipIdx]; omega) (p := fun _ => false) (f := fun _ => .none)
    (fun x hx _ _ _ _ _ => ts_one (t_is (t_notV (t_call (k := true) (e_cal C2 (hr.mono (by decide)) (Nat.le_refl _) (a_dv (e_var 0 rfl) (a_dv (e_var 3 rfl) (a_dv (v_at (l := sp) (enc := ttn) (e_var 1 rfl) (e_var 2 rfl) (x := sp.getD x.2 []) ?_) a_nil))) (fun ds q => ⟨⟨wo, x.1, sp.getD x.2 []⟩, q, ?_, rfl⟩)))) rfl)) (fun x hx q _ _ _ _ _ => nomatch q)) rfl) bd_no (bd_int e_int)) ?_)
  · have h5 := List.mem_zipIdx' hx
    rw [List.getD_eq_getElem?_getD, List.getElem?_eq_getElem (by omega)]; rfl
  · obtain ⟨h5, h6⟩ := List.mem_zipIdx' hx
    have h7 := h3.sup.row x.2 (by omega) h5
    rw [← h6] at h7
    have e : sp.getD x.2 [] = sp[x.2]'(by omega) := by rw [List.getD_eq_getElem?_getD, List.getElem?_eq_getElem (by omega)]; rfl
    have hm : x.1 ∈ wo.2 := by rw [h6]; exact List.getElem_mem h5
    have hz := h3.ok.some.2
    exact ⟨by rw [e]; exact h7, h3.ok.lt _ hm, Nat.le_trans (asc_len (h3.ok.asc _ hm) (h3.ok.lt _ hm)) (by omega)⟩
  · rw [List.filter_eq_nil_iff.mpr (fun _ _ => by simp)]; rfl
end
end BT

/-! ## text P4 -/
set_option Elab.async false
set_option linter.all false
set_option maxRecDepth 100000
set_option maxHeartbeats 1000000
/-! P4: what a support possibly extends to. -/
namespace BT
open PySem PySem.Spec PyProof.Rows L2 DL
theorem _root_.DL.iv_range2E {X : Cx} {c : DL.Ctx} {ρ : Rho} {pos p : Pos} {a b tg : Expr} {B : Bnd} {m n : Nat} (ha : DV X c a ρ (dn m)) (hb : DV X c b ρ (dn n)) (hm' : m ≤ 1000000) (hn : n ≤ 1000000) (hm : X.mg "range" = none) (hg : Gl X "range" := by rfl)
    (hs : starEach [a, b] X.env = (false, eval a X.env) :: starEach [b] X.env := by rfl) (hs2 : starEach [b] X.env = (false, eval b X.env) :: starEach [] X.env := by rfl) :
    DI X c B tg (.Call (.Name "range" p) [a, b] [] pos) ρ (fun as => as = ((List.range (n - m)).map (m + ·)).map dn) := fun σ H G S =>
  tWI_mono (iv_range2 ha hb hm' hn hm hg hs hs2 σ H G S) fun J H' ⟨as, G', q, r⟩ => ⟨as, G', by rw [q, List.map_map]; rfl, r⟩
theorem _root_.DL.v_cat {X : Cx} {c : DL.Ctx} {ρ : Rho} {pos : Pos} {a b : Expr} {as bs : List PyData} (ha : DV X c a ρ (.list as)) (hb : DV X c b ρ (.list bs)) (h : as.length + bs.length ≤ 1000000) : DV X c (.BinOp a .Add b pos) ρ (.list (as ++ bs)) :=
  (o_op op_cat ha hb fun d1 d2 q1 q2 => by rw [q1, q2]; exact d_cat h).dv
theorem _root_.L2.Room.units65 {k : Nat} {A : Around} (r : Room k A) : A.units + 65 < cLine := by have := r.un; omega
/-- the parts that a row tells, ascending -/
def tp (row : List (List Nat)) (lot less : List Nat) : List (List Nat) := uq (row.map fun c => part c lot less)
def lotAt (w : Wd) (i : Nat) : List Nat := w.2.getD i []
def rowAt (s : Su) (i : Nat) : List (List Nat) := s.getD i []
def fitsB (w : Wd) (s : Su) (i j : Nat) : Bool := decide (tp (rowAt s i) (lotAt w i) (common (lotAt w i) (lotAt w j)) = tp (rowAt s j) (lotAt w j) (common (lotAt w i) (lotAt w j)))
def whole (w : Wd) : List Nat := List.range w.1.length
def globs (w : Wd) : List (List Nat) := secs w.1 (whole w)
def isPoss (w : Wd) (s : Su) (g : List Nat) : Bool := (w.2.zip s).all fun p => decide (part g (whole w) p.1 ∈ p.2)
def ext (w : Wd) (s : Su) : List (List Nat) := (globs w).filter (isPoss w s)
def tellB (w : Wd) (g : List Nat) (i : Nat) (c : List Nat) : Bool := decide (part g (whole w) (lotAt w i) = c)
def exts (w : Wd) (s : Su) (i : Nat) (c : List Nat) : List (List Nat) := (ext w s).filter fun g => tellB w g i c
def lonely1 (w : Wd) (s : Su) (p : List (List Nat) × Nat) : List (Nat × List Nat) := (p.1.filter fun c => decide (exts w s p.2 c = [])).map fun c => (p.2, c)
def lonely (w : Wd) (s : Su) : List (Nat × List Nat) := s.zipIdx.flatMap (lonely1 w s)
def prd (p : Nat × List Nat) : PyData := .tuple [dn p.1, tn p.2]
def txS : Str := "strongly contextual"
def txE : Str := "extends everywhere"
def T_told_parts : PT := fnT (fun p : List (List Nat) × List Nat × List Nat => [ttn p.1, tn p.2.1, tn p.2.2]) (fun p => p.1.length < 64 ∧ (∀ c ∈ p.1, c.length = p.2.1.length ∧ ∀ k ∈ c, k < 64) ∧ (∀ k ∈ p.2.2, k ∈ p.2.1) ∧ p.2.2.length ≤ 1000) (fun p => ltn (tp p.1 p.2.1 p.2.2))
def T_are_matched : PT := fnT (fun p : Wd × Su × Nat × Nat => [wd p.1, tttn p.2.1, dn p.2.2.1, dn p.2.2.2]) (fun p => p.1.Has p.2.1 ∧ p.2.2.1 < p.1.2.length ∧ p.2.2.2 < p.1.2.length) (fun p => .bool (fitsB p.1 p.2.1 p.2.2.1 p.2.2.2))
def T_is_consistent_by : PT := fnT (fun p : Wd × Su => [wd p.1, tttn p.2]) (fun p => p.1.Has p.2 ∧ ∀ i j, i < p.1.2.length → j < p.1.2.length → fitsB p.1 p.2 i j = true) (fun _ => .bool true)
def T_is_possible : PT := fnT (fun p : Wd × Su × List Nat => [wd p.1, tttn p.2.1, tn p.2.2]) (fun p => p.1.Has p.2.1 ∧ p.2.2.length = p.1.1.length) (fun p => .bool (isPoss p.1 p.2.1 p.2.2))
def T_extending_by : PT := fnT (fun p : Wd × Su => [wd p.1, tttn p.2]) (fun p => p.1.Has p.2) (fun p => ltn (ext p.1 p.2))
def T_tells : PT := fnT (fun p : Wd × List Nat × Nat × List Nat => [wd p.1, tn p.2.1, dn p.2.2.1, tn p.2.2.2]) (fun p => p.1.Ok ∧ p.2.1.length = p.1.1.length ∧ p.2.2.1 < p.1.2.length) (fun p => .bool (tellB p.1 p.2.1 p.2.2.1 p.2.2.2))
def T_extensions_by : PT := fnT (fun p : Wd × Su × Nat × List Nat => [wd p.1, tttn p.2.1, dn p.2.2.1, tn p.2.2.2]) (fun p => p.1.Has p.2.1 ∧ p.2.2.1 < p.1.2.length) (fun p => ltn (exts p.1 p.2.1 p.2.2.1 p.2.2.2))
def T_lonely_by : PT := fnT (fun p : Wd × Su => [wd p.1, tttn p.2]) (fun p => p.1.Has p.2) (fun p => .list ((lonely p.1 p.2).map prd))
def T_contextuality_by : PT := fnT (fun p : Wd × Su => [wd p.1, tttn p.2]) (fun p => p.1.Has p.2 ∧ (ext p.1 p.2 = [] ∨ lonely p.1 p.2 = [])) (fun p => .str (if ext p.1 p.2 = [] then txS else txE))
/-! facts -/
theorem cell_lt {sz lot c : List Nat} (h : CellOk sz lot c) (hs : ∀ s ∈ sz, s ≤ 4) : ∀ k ∈ c, k < 64 := by
  intro k hk
  obtain ⟨i, hi, rfl⟩ := List.mem_iff_getElem.mp hk
  have h1 := h.lt i hi (by rw [← h.len]; exact hi)
  have hl : lot[i]'(by rw [← h.len]; exact hi) < sz.length := by
    by_cases q : lot[i]'(by rw [← h.len]; exact hi) < sz.length
    · exact q
    · rw [List.getD_eq_getElem?_getD, List.getElem?_eq_none (by omega)] at h1
      simp at h1
  rw [List.getD_eq_getElem?_getD, List.getElem?_eq_getElem hl] at h1
  have h2 := hs _ (List.getElem_mem hl)
  simp at h1
  omega
theorem Wd.Has.lot {w : Wd} {s : Su} (h : w.Has s) {i : Nat} (hi : i < w.2.length) : lotAt w i ∈ w.2 ∧ w.2[i]? = some (lotAt w i) := by
  unfold lotAt
  rw [List.getD_eq_getElem?_getD, List.getElem?_eq_getElem hi]
  exact ⟨List.getElem_mem hi, rfl⟩
theorem Wd.Has.row {w : Wd} {s : Su} (h : w.Has s) {i : Nat} (hi : i < w.2.length) : RowOk w.1 (lotAt w i) (rowAt s i) ∧ s[i]? = some (rowAt s i) := by
  have hl := h.sup.len
  have := h.sup.row i (by omega) hi
  unfold lotAt rowAt
  rw [List.getD_eq_getElem?_getD, List.getElem?_eq_getElem hi, List.getD_eq_getElem?_getD, List.getElem?_eq_getElem (by omega)]
  exact ⟨this, rfl⟩
theorem Wd.Ok.lotLen {w : Wd} (h : w.Ok) {c : List Nat} (hc : c ∈ w.2) : c.length ≤ 6 := Nat.le_trans (asc_len (h.asc c hc) (h.lt c hc)) h.some.2
theorem mem_common {a b : List Nat} {k : Nat} : k ∈ common a b ↔ k ∈ a ∧ k ∈ b := by
  unfold common
  rw [List.mem_filter]
  simp
theorem common_len (a b : List Nat) : (common a b).length ≤ a.length := List.length_filter_le _ _
theorem globs_len {w : Wd} {g : List Nat} (h : g ∈ globs w) : g.length = w.1.length := by
  have := cells_length h
  rw [this]
  unfold szs whole
  rw [List.length_map, List.length_range]
theorem globs_count {w : Wd} (h : w.Ok) : (globs w).length ≤ 64 := by
  unfold globs secs whole
  rw [szs_range, cells_count]
  exact h.prod
theorem ext_len {w : Wd} {s : Su} (h : w.Ok) : (ext w s).length ≤ 64 := Nat.le_trans (List.length_filter_le _ _) (globs_count h)
section
variable {P : Program} {w : World} {K : PySem.W.Frag} {mg : Str → Option Value} {base : Heap}
theorem p_told_parts (D : DefAt K mg "told_parts" s_told_parts) (B : Nb mg) (C : Cal P w K mg base "part_of" 1 ["section", "lot", "less"] (spD T_part_of)) : Cal P w K mg base "told_parts" 2 ["possible", "lot", "less"] (spD T_told_parts) := by
  refine fn_D D c_told_parts (fun ds R ⟨i, h, _⟩ => by rw [h]; rfl) (fun _ _ _ _ _ _ us hl => match us, hl with | [_, _, _], _ => rfl) fun f cdv A outer s H E G0 H0 hr ds R ⟨⟨row, lot, less⟩, h1, ⟨h3, h4, h5, h6⟩, h2⟩ => ?_
  subst h1 h2
  dsimp only at h3 h4 h5 h6 ⊢
  refine s_ret (v_lstO (o_told (l := row.map fun c => part c lot less) (d := less.length) rfl hr.units B.sorted B.set (v_lst (o_map1 3 c_told_parts (iv_tup (e_var 0 rfl)) (by omega) (f := fun c => tn (part c lot less)) (fun x hx _ _ _ _ _ =>
    e_cal C (hr.mono (by decide)) (Nat.le_refl _) (a_dv (e_var 3 rfl) (a_dv (e_var 1 rfl) (a_dv (e_var 2 rfl) a_nil))) (fun ds q => ⟨⟨x, lot, less⟩, q, ⟨(h4 x hx).1, h5, h6⟩, rfl⟩))) ?_) ?_ ?_ ?_) rfl)
  · rw [List.map_map]; rfl
  · rw [List.length_map]; exact h3
  · intro x hx
    obtain ⟨c, _, rfl⟩ := List.mem_map.mp hx
    unfold part; rw [List.length_map]
  · intro x hx k hk
    obtain ⟨c, hc, rfl⟩ := List.mem_map.mp hx
    obtain ⟨j, _, rfl⟩ := List.mem_map.mp hk
    rw [List.getD_eq_getElem?_getD]
    cases e : c[lot.idxOf j]? with
    | none => simp
    | some v => exact (h4 c hc).2 v (List.mem_of_getElem? e)
theorem p_are_matched (D : DefAt K mg "are_matched" s_are_matched) (C : Cal P w K mg base "shared_by" 1 ["one", "two"] (spD T_shared_by)) (C2 : Cal P w K mg base "told_parts" 2 ["possible", "lot", "less"] (spD T_told_parts)) : Cal P w K mg base "are_matched" 3 ["scenario", "support", "one", "two"] (spD T_are_matched) := by
  refine fn_D D c_are_matched (fun ds R ⟨i, h, _⟩ => by rw [h]; rfl) (fun _ _ _ _ _ _ us hl => match us, hl with | [_, _, _, _], _ => rfl) fun f cdv A outer s H E G0 H0 hr ds R ⟨⟨wo, sp, i, j⟩, h1, ⟨h3, hi, hj⟩, h2⟩ => ?_
  subst h1 h2
  dsimp only at h3 hi hj ⊢
  refine s_par 4 5 (.dat fun d => d = tn (lotAt wo i)) (.dat fun d => d = tn (lotAt wo j)) (v_at (l := wo.2) (enc := tn) (v_ixT (d := ttn wo.2) (i := 1) (e_var 0 rfl) e_int rfl) (e_var 2 rfl) (h3.lot hi).2) (v_at (l := wo.2) (enc := tn) (v_ixT (d := ttn wo.2) (i := 1) (e_var 0 rfl) e_int rfl) (e_var 3 rfl) (h3.lot hj).2)
    (by decide) ⟨Nat.le_of_ble_eq_true rfl, Nat.le_of_ble_eq_true rfl⟩ (fun s t q1 q2 => ?_) rfl c_are_matched.nd
  obtain ⟨d1, rfl, rfl⟩ := q1
  obtain ⟨d2, rfl, rfl⟩ := q2
  have l1 := h3.ok.lotLen (h3.lot hi).1
  have l2 := h3.ok.lotLen (h3.lot hj).1
  have lc := common_len (lotAt wo i) (lotAt wo j)
  have r1 := (h3.row hi).1
  have r2 := (h3.row hj).1
  have hs : ∀ s ∈ wo.1, s ≤ 4 := fun s q => (h3.ok.each s q).2
  have l1' : (lotAt wo i).length ≤ 1000 := by omega
  have lc' : (common (lotAt wo i) (lotAt wo j)).length ≤ 1000 := by omega
  refine s_setV 6 (e_cal C hr (by decide) (a_dv (e_var 4 rfl) (a_dv (e_var 5 rfl) a_nil)) (fun ds q => ⟨⟨lotAt wo i, lotAt wo j⟩, q, l1', rfl⟩)) ?_ c_are_matched.nd
  exact s_ret (v_eqE (enc := ltn) hr.units pl_ltn (by decide) (fun _ _ => ltn_inj)
    (e_cal C2 hr (by decide) (a_dv (v_at (l := sp) (enc := ttn) (e_var 1 rfl) (e_var 2 rfl) (h3.row hi).2) (a_dv (e_var 4 rfl) (a_dv (e_var 6 rfl) a_nil))) (fun ds q => ⟨⟨rowAt sp i, lotAt wo i, common (lotAt wo i) (lotAt wo j)⟩, q, ⟨r1.few, fun c hc => ⟨(r1.cell c hc).len, cell_lt (r1.cell c hc) hs⟩, fun k hk => (mem_common.mp hk).1, lc'⟩, rfl⟩))
    (e_cal C2 hr (by decide) (a_dv (v_at (l := sp) (enc := ttn) (e_var 1 rfl) (e_var 3 rfl) (h3.row hj).2) (a_dv (e_var 5 rfl) (a_dv (e_var 6 rfl) a_nil))) (fun ds q => ⟨⟨rowAt sp j, lotAt wo j, common (lotAt wo i) (lotAt wo j)⟩, q, ⟨r2.few, fun c hc => ⟨(r2.cell c hc).len, cell_lt (r2.cell c hc) hs⟩, fun k hk => (mem_common.mp hk).2, lc'⟩, rfl⟩)))
theorem p_is_consistent_by (D : DefAt K mg "is_consistent_by" s_is_consistent_by) (B : Nb mg) (C : Cal P w K mg base "are_matched" 3 ["scenario", "support", "one", "two"] (spD T_are_matched)) : Cal P w K mg base "is_consistent_by" 4 ["scenario", "support"] (spD T_is_consistent_by) := by
  refine fn_D D c_is_consistent_by (fun ds R ⟨i, h, _⟩ => by rw [h]; rfl) (fun _ _ _ _ _ _ us hl => match us, hl with | [_, _], _ => rfl) fun f cdv A outer s H E G0 H0 hr ds R ⟨⟨wo, sp⟩, h1, ⟨h3, h4⟩, h2⟩ => ?_
  subst h1 h2
  dsimp only at h3 h4 ⊢
  have few := h3.few
  refine s_setV 2 (v_len B.len (v_ixT (d := ttn wo.2) (i := 1) (e_var 0 rfl) e_int rfl) (.inr rfl) (List.length_map _)) ?_ c_is_consistent_by.nd
  refine s_ret (v_is (e_all (bs := (List.range wo.2.length).flatMap fun i => ((List.range (wo.2.length - (i + 1))).map (i + 1 + ·)).map fun _ => true) B.all rfl (v_lst (o_two 3 4 100 c_is_consistent_by (iv_range1 (e_var 2 rfl) (by omega) B.range) (ys := fun i => (List.range (wo.2.length - (i + 1))).map (i + 1 + ·)) (enc1 := dn) (p1 := fun _ _ => true) (f := fun _ _ => .bool true)
    (fun x hx _ _ _ _ _ => iv_range2E (m := x + 1) (v_is (v_add (e_var 3 rfl) e_int) rfl) (e_var 2 rfl) (by have := List.mem_range.mp hx; omega) (by omega) B.range) (fun x hx => by rw [List.length_map, List.length_range]; omega) (by rw [List.length_range]; have := Nat.mul_le_mul_right 100 few; omega)
    (fun x hx y hy _ _ _ _ _ => ts_nil) (fun x hx y hy _ _ _ _ _ _ => ?_)) ?_)) ?_)
  · have hx' := List.mem_range.mp hx
    obtain ⟨k, hk, rfl⟩ := List.mem_map.mp hy
    have hk' := List.mem_range.mp hk
    refine v_is (e_cal C (hr.mono (by decide)) (Nat.le_refl _) (a_dv (e_var 0 rfl) (a_dv (e_var 1 rfl) (a_dv (e_var 3 rfl) (a_dv (e_var 4 rfl) a_nil)))) (fun ds q => ⟨⟨wo, sp, x, x + 1 + k⟩, q, ⟨h3, hx', by show x + 1 + k < wo.2.length; omega⟩, rfl⟩)) ?_
    exact congrArg PyData.bool (h4 _ _ hx' (show x + 1 + k < _ by omega))
  · rw [List.map_flatMap]
    congr 1
    funext x
    rw [List.filter_eq_self.mpr (fun _ _ => rfl)]
    simp only [List.map_map]; rfl
  · simp
theorem p_is_possible (D : DefAt K mg "is_possible" s_is_possible) (B : Nb mg) (C : Cal P w K mg base "all_of" 1 ["scenario"] (spD T_all_of)) (C2 : Cal P w K mg base "part_of" 1 ["section", "lot", "less"] (spD T_part_of)) : Cal P w K mg base "is_possible" 2 ["scenario", "support", "assignment"] (spD T_is_possible) := by
  refine fn_D D c_is_possible (fun ds R ⟨i, h, _⟩ => by rw [h]; rfl) (fun _ _ _ _ _ _ us hl => match us, hl with | [_, _, _], _ => rfl) fun f cdv A outer s H E G0 H0 hr ds R ⟨⟨wo, sp, g⟩, h1, ⟨h3, h4⟩, h2⟩ => ?_
  subst h1 h2
  dsimp only at h3 h4 ⊢
  have few := h3.few
  have h6 := h3.ok.some.2
  have hu := hr.units65
  refine s_setV 3 (e_cal C hr (by decide) (a_dv (e_var 0 rfl) a_nil) (fun ds q => ⟨wo, q, by omega, rfl⟩)) ?_ c_is_possible.nd
  refine s_ret (v_is (e_all (bs := (wo.2.zip sp).map fun p => decide (part g (whole wo) p.1 ∈ p.2)) B.all rfl (v_lst (o_map2 4 5 c_is_possible (xs := wo.2.zip sp) (e1 := fun p => tn p.1) (e2 := fun p => ttn p.2) (i_zipE (l := wo.2) (m := sp) (ea := tn) (eb := ttn) (v_ixT (d := ttn wo.2) (i := 1) (e_var 0 rfl) e_int rfl) (e_var 1 rfl) B.zip) (by rw [List.length_zip]; omega) (f := fun p => .bool (decide (part g (whole wo) p.1 ∈ p.2))) (fun x hx _ _ _ _ _ =>
    v_is (v_inX (enc := tn) (x := part g (whole wo) x.1) (l := x.2) hu pl_tn (by decide) (fun _ _ => tn_inj) (e_cal C2 (hr.mono (by decide)) (Nat.le_refl _) (a_dv (e_var 2 rfl) (a_dv (e_var 3 rfl) (a_dv (e_var 4 rfl) a_nil))) (fun ds q => ⟨⟨g, whole wo, x.1⟩, q, ?_, rfl⟩)) (e_var 5 rfl) (.inr rfl)) (by congr))) ?_)) ?_)
  · have hm := (List.of_mem_zip hx).1
    have := h3.ok.lotLen hm
    have t' : x.1.length ≤ 1000 := by omega
    exact ⟨by show g.length = (whole wo).length; unfold whole; rw [List.length_range]; exact h4, fun k hk => List.mem_range.mpr (h3.ok.lt _ hm k hk), t'⟩
  · rw [List.map_map]; rfl
  · rw [List.all_map]; rfl
theorem p_extending_by (D : DefAt K mg "extending_by" s_extending_by) (C : Cal P w K mg base "globals_of" 2 ["scenario"] (spD T_globals_of)) (C2 : Cal P w K mg base "is_possible" 2 ["scenario", "support", "assignment"] (spD T_is_possible)) : Cal P w K mg base "extending_by" 3 ["scenario", "support"] (spD T_extending_by) := by
  refine fn_D D c_extending_by (fun ds R ⟨i, h, _⟩ => by rw [h]; rfl) (fun _ _ _ _ _ _ us hl => match us, hl with | [_, _], _ => rfl) fun f cdv A outer s H E G0 H0 hr ds R ⟨⟨wo, sp⟩, h1, h3, h2⟩ => ?_
  subst h1 h2
  dsimp only at h3 ⊢
  have hg := globs_count h3.ok
  exact s_ret (v_lst (o_flt1 2 c_extending_by (xs := globs wo) (enc := tn) (iv_list (e_cal C hr (by decide) (a_dv (e_var 0 rfl) a_nil) (fun ds q => ⟨wo, q, h3.ok, rfl⟩))) (by omega) (p := isPoss wo sp) (f := tn)
    (fun x hx _ _ _ _ _ => ts_one (t_call (e_cal C2 (hr.mono (by decide)) (Nat.le_refl _) (a_dv (e_var 0 rfl) (a_dv (e_var 1 rfl) (a_dv (e_var 2 rfl) a_nil))) (fun ds q => ⟨⟨wo, sp, x⟩, q, ⟨h3, globs_len hx⟩, rfl⟩)))) (fun x hx q _ _ _ _ _ => e_var 2 rfl)) rfl)
theorem p_tells (D : DefAt K mg "tells" s_tells) (C : Cal P w K mg base "all_of" 1 ["scenario"] (spD T_all_of)) (C2 : Cal P w K mg base "part_of" 1 ["section", "lot", "less"] (spD T_part_of)) : Cal P w K mg base "tells" 2 ["scenario", "assignment", "at", "section"] (spD T_tells) := by
  refine fn_D D c_tells (fun ds R ⟨i, h, _⟩ => by rw [h]; rfl) (fun _ _ _ _ _ _ us hl => match us, hl with | [_, _, _, _], _ => rfl) fun f cdv A outer s H E G0 H0 hr ds R ⟨⟨wo, g, i, c⟩, h1, ⟨h3, h4, hi⟩, h2⟩ => ?_
  subst h1 h2
  dsimp only at h3 h4 hi ⊢
  have h6 := h3.some.2
  have hl : lotAt wo i ∈ wo.2 ∧ wo.2[i]? = some (lotAt wo i) := by
    unfold lotAt
    rw [List.getD_eq_getElem?_getD, List.getElem?_eq_getElem hi]
    exact ⟨List.getElem_mem hi, rfl⟩
  have l1 := h3.lotLen hl.1
  have l1' : (lotAt wo i).length ≤ 1000 := by omega
  exact s_ret (v_eqE (enc := tn) hr.units pl_tn (by decide) (fun _ _ => tn_inj) (e_cal C2 hr (by decide) (a_dv (e_var 1 rfl) (a_dv (e_cal C hr (by decide) (a_dv (e_var 0 rfl) a_nil) (fun ds q => ⟨wo, q, by omega, rfl⟩)) (a_dv (v_at (l := wo.2) (enc := tn) (v_ixT (d := ttn wo.2) (i := 1) (e_var 0 rfl) e_int rfl) (e_var 2 rfl) hl.2) a_nil)))
    (fun ds q => ⟨⟨g, whole wo, lotAt wo i⟩, q, ⟨by show g.length = (whole wo).length; unfold whole; rw [List.length_range]; exact h4, fun k hk => List.mem_range.mpr (h3.lt _ hl.1 k hk), l1'⟩, rfl⟩)) (e_var 3 rfl))
theorem p_extensions_by (D : DefAt K mg "extensions_by" s_extensions_by) (C : Cal P w K mg base "extending_by" 3 ["scenario", "support"] (spD T_extending_by)) (C2 : Cal P w K mg base "tells" 2 ["scenario", "assignment", "at", "section"] (spD T_tells)) : Cal P w K mg base "extensions_by" 4 ["scenario", "support", "at", "section"] (spD T_extensions_by) := by
  refine fn_D D c_extensions_by (fun ds R ⟨i, h, _⟩ => by rw [h]; rfl) (fun _ _ _ _ _ _ us hl => match us, hl with | [_, _, _, _], _ => rfl) fun f cdv A outer s H E G0 H0 hr ds R ⟨⟨wo, sp, i, c⟩, h1, ⟨h3, hi⟩, h2⟩ => ?_
  subst h1 h2
  dsimp only at h3 hi ⊢
  have hg := ext_len (s := sp) h3.ok
  exact s_ret (v_lst (o_flt1 4 c_extensions_by (xs := ext wo sp) (enc := tn) (iv_list (e_cal C hr (by decide) (a_dv (e_var 0 rfl) (a_dv (e_var 1 rfl) a_nil)) (fun ds q => ⟨⟨wo, sp⟩, q, h3, rfl⟩))) (by omega) (p := fun g => tellB wo g i c) (f := tn)
    (fun x hx _ _ _ _ _ => ts_one (t_call (e_cal C2 (hr.mono (by decide)) (Nat.le_refl _) (a_dv (e_var 0 rfl) (a_dv (e_var 4 rfl) (a_dv (e_var 2 rfl) (a_dv (e_var 3 rfl) a_nil)))) (fun ds q => ⟨⟨wo, x, i, c⟩, q, ⟨h3.ok, globs_len (List.mem_filter.mp hx).1, hi⟩, rfl⟩)))) (fun x hx q _ _ _ _ _ => e_var 4 rfl)) rfl)
theorem p_lonely_by (D : DefAt K mg "lonely_by" s_lonely_by) (B : Nb mg) (C : Cal P w K mg base "extensions_by" 4 ["scenario", "support", "at", "section"] (spD T_extensions_by)) : Cal P w K mg base "lonely_by" 5 ["scenario", "support"] (spD T_lonely_by) := by
  refine fn_D D c_lonely_by (fun ds R ⟨i, h, _⟩ => by rw [h]; rfl) (fun _ _ _ _ _ _ us hl => match us, hl with | [_, _], _ => rfl) fun f cdv A outer s H E G0 H0 hr ds R ⟨⟨wo, sp⟩, h1, h3, h2⟩ => ?_
  subst h1 h2
  dsimp only at h3 ⊢
  have few := h3.few
  have hl := h3.sup.len
  have hrow : ∀ p ∈ sp.zipIdx, p.1.length < 64 := fun p hp => by
    obtain ⟨h5, h6⟩ := List.mem_zipIdx' hp
    have := (h3.row (i := p.2) (by omega)).1.few
    rw [h6]
    unfold rowAt at this
    rw [List.getD_eq_getElem?_getD, List.getElem?_eq_getElem h5] at this
    exact this
  have hlen : ∀ i, ((sp.zipIdx.take i).flatMap (lonely1 wo sp)).length ≤ 6400 := fun i => by
    have h5 := flat_len (M := 64) (lonely1 wo sp) (sp.zipIdx.take i) fun p hp => by
      unfold lonely1
      rw [List.length_map]
      have := hrow p (List.mem_of_mem_take hp)
      exact Nat.le_trans (List.length_filter_le _ _) (by omega)
    have h6 : (sp.zipIdx.take i).length ≤ 100 := by rw [List.length_take, List.length_zipIdx]; omega
    have := Nat.mul_le_mul_right 64 h6
    omega
  refine s_setV 2 (v_lstO (ds' := []) o_nil rfl) ?_ c_lonely_by.nd
  refine s_for (xs := sp.zipIdx) (enc := fun p => .tuple [dn p.2, ttn p.1]) (fun i ρ => ∃ x y z, ρ = [some (.dat (wd wo)), some (.dat (tttn sp)), some (.dat (.list (((sp.zipIdx.take i).flatMap (lonely1 wo sp)).map prd))), x, y, z]) rfl
    (i_enumE (l := sp) (enc := ttn) (e_var 1 rfl) B.enumerate) (tg_two (i := 3) (j := 4) rfl c_lonely_by.nd rfl rfl (Or.inr rfl) (Or.inl rfl) (Or.inl rfl) (Or.inr rfl) rfl rfl) ⟨Nat.le_of_ble_eq_true rfl, Nat.le_of_ble_eq_true rfl⟩ (fun _ _ => ⟨_, _, rfl⟩) PassesOwn.never ⟨none, none, none, rfl⟩ ?_ ?_
  · rintro i x ρ' hx ⟨y, z, u, rfl⟩
    have hxl : x ∈ sp.zipIdx := List.mem_of_getElem? hx
    obtain ⟨h5, h6⟩ := List.mem_zipIdx' hxl
    have h7 := hrow x hxl
    have h8 := hlen i
    have hnext : (sp.zipIdx.take (i + 1)).flatMap (lonely1 wo sp) = (sp.zipIdx.take i).flatMap (lonely1 wo sp) ++ lonely1 wo sp x := by
      rw [List.take_add_one, hx]
      simp [List.flatMap_append]
    refine s_setV 2 (v_is (v_cat (e_var 2 rfl) (v_lst (o_flt1 5 c_lonely_by (xs := x.1) (enc := tn) (iv_tup (e_var 4 rfl)) (by omega) (p := fun c => decide (exts wo sp x.2 c = [])) (f := fun c => prd (x.2, c))
      (fun c hc _ _ _ _ _ => ts_one (t_is (t_eqE (enc := ltn) (x := exts wo sp x.2 c) (y := []) hr.units pl_ltn (by decide) (fun _ _ => ltn_inj) (e_cal C (hr.mono (by decide)) (Nat.le_refl _) (a_dv (e_var 0 rfl) (a_dv (e_var 1 rfl) (a_dv (e_var 3 rfl) (a_dv (e_var 5 rfl) a_nil)))) (fun ds q => ⟨⟨wo, sp, x.2, c⟩, q, ⟨h3, by show x.2 < wo.2.length; omega⟩, rfl⟩)) (DO.dv o_nil)) rfl)) (fun c hc q _ _ _ _ _ => v_tup (a_dv (e_var 3 rfl) (a_dv (e_var 5 rfl) a_nil)))) rfl) ?_) ?_) (s_nil ⟨_, _, _, rfl⟩) c_lonely_by.nd
    · have := List.length_filter_le (fun c => decide (exts wo sp x.2 c = [])) x.1
      rw [List.length_map, List.length_map]
      omega
    · rw [hnext, List.map_append]
      congr 2
      unfold lonely1
      rw [List.map_map]; rfl
  · rintro ρ' ⟨y, z, u, rfl⟩
    refine s_ret (v_is (e_var 2 rfl) ?_)
    rw [List.take_length]; rfl
theorem p_contextuality_by (D : DefAt K mg "contextuality_by" s_contextuality_by) (C : Cal P w K mg base "extending_by" 3 ["scenario", "support"] (spD T_extending_by)) (C2 : Cal P w K mg base "lonely_by" 5 ["scenario", "support"] (spD T_lonely_by)) : Cal P w K mg base "contextuality_by" 6 ["scenario", "support"] (spD T_contextuality_by) := by
  refine fn_D D c_contextuality_by (fun ds R ⟨i, h, _⟩ => by rw [h]; rfl) (fun _ _ _ _ _ _ us hl => match us, hl with | [_, _], _ => rfl) fun f cdv A outer s H E G0 H0 hr ds R ⟨⟨wo, sp⟩, h1, ⟨h3, h4⟩, h2⟩ => ?_
  subst h1 h2
  dsimp only at h3 h4 ⊢
  by_cases he : ext wo sp = []
  · exact s_ifT (P1 := fun _ => False) (t_is (t_eqE (enc := ltn) (x := ext wo sp) (y := []) hr.units pl_ltn (by decide) (fun _ _ => ltn_inj) (e_cal C hr (by decide) (a_dv (e_var 0 rfl) (a_dv (e_var 1 rfl) a_nil)) (fun ds q => ⟨⟨wo, sp⟩, q, h3, rfl⟩)) (DO.dv o_nil)) (decide_eq_true he)) (s_ret (v_is e_str (show _ = PyData.str (if ext wo sp = [] then txS else txE) by rw [if_pos he]; rfl))) (fun _ z => z.elim)
  · have hlo : lonely wo sp = [] := h4.resolve_left he
    refine s_ifF (t_is (t_eqE (enc := ltn) (x := ext wo sp) (y := []) hr.units pl_ltn (by decide) (fun _ _ => ltn_inj) (e_cal C hr (by decide) (a_dv (e_var 0 rfl) (a_dv (e_var 1 rfl) a_nil)) (fun ds q => ⟨⟨wo, sp⟩, q, h3, rfl⟩)) (DO.dv o_nil)) (decide_eq_false he)) ?_
    refine s_ret (e_if (Q1 := fun k => k = true) (t_is (t_eqE (enc := ltn) (x := []) (y := []) hr.units pl_ltn (by decide) (fun _ _ => ltn_inj) (v_is (e_cal C2 hr (by decide) (a_dv (e_var 0 rfl) (a_dv (e_var 1 rfl) a_nil)) (fun ds q => ⟨⟨wo, sp⟩, q, h3, rfl⟩)) ?_) (DO.dv o_nil)) rfl) (fun _ => v_is e_str ?_) (fun q => nomatch q))
    · show PyData.list _ = _
      rw [hlo]; rfl
    · show _ = PyData.str (if ext wo sp = [] then txS else txE)
      rw [if_neg he]; rfl
end
end BT

/-! ## text P5 -/
set_option Elab.async false
set_option linter.all false
set_option maxRecDepth 100000
set_option maxHeartbeats 1000000
/-! P5: the public functions, on supports that are right. -/
namespace BT
open PySem PySem.Spec PyProof.Rows L2 DL
def T_check_support : PT := fnT (fun p : Wd × Su => [wd p.1, tttn p.2]) (fun p => p.1.Has p.2) (fun _ => .none)
def T_is_consistent : PT := fnT (fun p : Wd × Su => [wd p.1, tttn p.2]) (fun p => p.1.Has p.2 ∧ ∀ i j, i < p.1.2.length → j < p.1.2.length → fitsB p.1 p.2 i j = true) (fun _ => .bool true)
def T_extending : PT := fnT (fun p : Wd × Su => [wd p.1, tttn p.2]) (fun p => p.1.Has p.2) (fun p => ttn (ext p.1 p.2))
def headD : List (List Nat) → PyData
  | [] => .none
  | g :: _ => tn g
def T_extension : PT := fnT (fun p : Wd × Su × Nat × List Nat => [wd p.1, tttn p.2.1, dn p.2.2.1, tn p.2.2.2]) (fun p => p.1.Has p.2.1 ∧ p.2.2.1 < p.1.2.length ∧ p.2.2.2 ∈ rowAt p.2.1 p.2.2.1) (fun p => headD (exts p.1 p.2.1 p.2.2.1 p.2.2.2))
def T_non_extending : PT := fnT (fun p : Wd × Su => [wd p.1, tttn p.2]) (fun p => p.1.Has p.2) (fun p => .tuple ((lonely p.1 p.2).map prd))
def T_contextuality_of : PT := fnT (fun p : Wd × Su => [wd p.1, tttn p.2]) (fun p => p.1.Has p.2 ∧ (ext p.1 p.2 = [] ∨ lonely p.1 p.2 = [])) (fun p => .str (if ext p.1 p.2 = [] then txS else txE))
section
variable {P : Program} {w : World} {K : PySem.W.Frag} {mg : Str → Option Value} {base : Heap}
theorem p_check_support (D : DefAt K mg "check_support" s_check_support) (C : Cal P w K mg base "check_scenario" 6 ["value"] (spD T_check_scenario)) (C2 : Cal P w K mg base "wrong_in_support" 5 ["scenario", "value"] (spD T_wrong_in_support)) : Cal P w K mg base "check_support" 7 ["scenario", "support"] (spD T_check_support) := by
  refine fn_D D c_check_support (fun ds R ⟨i, h, _⟩ => by rw [h]; rfl) (fun _ _ _ _ _ _ us hl => match us, hl with | [_, _], _ => rfl) fun f cdv A outer s H E G0 H0 hr ds R ⟨⟨wo, sp⟩, h1, h3, h2⟩ => ?_
  subst h1 h2
  dsimp only at h3 ⊢
  refine s_expr (e_cal C hr (by decide) (a_dv (e_var 0 rfl) a_nil) (fun ds q => ⟨wo, q, ⟨h3.ok, h3.few⟩, rfl⟩)) ?_
  refine s_for (xs := ([] : List Nat)) (enc := dn) (B := .one 2) (fun _ _ => True) rfl (iv_list (e_cal C2 hr (by decide) (a_dv (e_var 0 rfl) (a_dv (e_var 1 rfl) a_nil)) (fun ds q => ⟨⟨wo, sp⟩, q, h3, rfl⟩))) (tg_one (i := 2) c_check_support.nd rfl (Or.inl rfl)) (Nat.le_of_ble_eq_true rfl) (fun _ _ => trivial) PassesOwn.never trivial (fun i x ρ' hx => nomatch hx) (fun _ _ => s_nil rfl)
theorem p_is_consistent (D : DefAt K mg "is_consistent" s_is_consistent) (C : Cal P w K mg base "check_support" 7 ["scenario", "support"] (spD T_check_support)) (C2 : Cal P w K mg base "is_consistent_by" 4 ["scenario", "support"] (spD T_is_consistent_by)) : Cal P w K mg base "is_consistent" 8 ["scenario", "support"] (spD T_is_consistent) := by
  refine fn_D D c_is_consistent (fun ds R ⟨i, h, _⟩ => by rw [h]; rfl) (fun _ _ _ _ _ _ us hl => match us, hl with | [_, _], _ => rfl) fun f cdv A outer s H E G0 H0 hr ds R ⟨⟨wo, sp⟩, h1, h3, h2⟩ => ?_
  subst h1 h2
  dsimp only at h3 ⊢
  refine s_expr (e_cal C hr (by decide) (a_dv (e_var 0 rfl) (a_dv (e_var 1 rfl) a_nil)) (fun ds q => ⟨⟨wo, sp⟩, q, h3.1, rfl⟩)) ?_
  exact s_ret (e_cal C2 hr (by decide) (a_dv (e_var 0 rfl) (a_dv (e_var 1 rfl) a_nil)) (fun ds q => ⟨⟨wo, sp⟩, q, h3, rfl⟩))
theorem p_extending (D : DefAt K mg "extending" s_extending) (B : Nb mg) (C : Cal P w K mg base "check_support" 7 ["scenario", "support"] (spD T_check_support)) (C2 : Cal P w K mg base "extending_by" 3 ["scenario", "support"] (spD T_extending_by)) : Cal P w K mg base "extending" 8 ["scenario", "support"] (spD T_extending) := by
  refine fn_D D c_extending (fun ds R ⟨i, h, _⟩ => by rw [h]; rfl) (fun _ _ _ _ _ _ us hl => match us, hl with | [_, _], _ => rfl) fun f cdv A outer s H E G0 H0 hr ds R ⟨⟨wo, sp⟩, h1, h3, h2⟩ => ?_
  subst h1 h2
  dsimp only at h3 ⊢
  refine s_expr (e_cal C hr (by decide) (a_dv (e_var 0 rfl) (a_dv (e_var 1 rfl) a_nil)) (fun ds q => ⟨⟨wo, sp⟩, q, h3, rfl⟩)) ?_
  exact s_ret (v_tupL B.tuple (e_cal C2 hr (by decide) (a_dv (e_var 0 rfl) (a_dv (e_var 1 rfl) a_nil)) (fun ds q => ⟨⟨wo, sp⟩, q, h3, rfl⟩)))
theorem p_non_extending (D : DefAt K mg "non_extending" s_non_extending) (B : Nb mg) (C : Cal P w K mg base "check_support" 7 ["scenario", "support"] (spD T_check_support)) (C2 : Cal P w K mg base "lonely_by" 5 ["scenario", "support"] (spD T_lonely_by)) : Cal P w K mg base "non_extending" 8 ["scenario", "support"] (spD T_non_extending) := by
  refine fn_D D c_non_extending (fun ds R ⟨i, h, _⟩ => by rw [h]; rfl) (fun _ _ _ _ _ _ us hl => match us, hl with | [_, _], _ => rfl) fun f cdv A outer s H E G0 H0 hr ds R ⟨⟨wo, sp⟩, h1, h3, h2⟩ => ?_
  subst h1 h2
  dsimp only at h3 ⊢
  refine s_expr (e_cal C hr (by decide) (a_dv (e_var 0 rfl) (a_dv (e_var 1 rfl) a_nil)) (fun ds q => ⟨⟨wo, sp⟩, q, h3, rfl⟩)) ?_
  exact s_ret (v_tupL B.tuple (e_cal C2 hr (by decide) (a_dv (e_var 0 rfl) (a_dv (e_var 1 rfl) a_nil)) (fun ds q => ⟨⟨wo, sp⟩, q, h3, rfl⟩)))
theorem p_contextuality_of (D : DefAt K mg "contextuality_of" s_contextuality_of) (C : Cal P w K mg base "check_support" 7 ["scenario", "support"] (spD T_check_support)) (C2 : Cal P w K mg base "contextuality_by" 6 ["scenario", "support"] (spD T_contextuality_by)) : Cal P w K mg base "contextuality_of" 8 ["scenario", "support"] (spD T_contextuality_of) := by
  refine fn_D D c_contextuality_of (fun ds R ⟨i, h, _⟩ => by rw [h]; rfl) (fun _ _ _ _ _ _ us hl => match us, hl with | [_, _], _ => rfl) fun f cdv A outer s H E G0 H0 hr ds R ⟨⟨wo, sp⟩, h1, h3, h2⟩ => ?_
  subst h1 h2
  dsimp only at h3 ⊢
  refine s_expr (e_cal C hr (by decide) (a_dv (e_var 0 rfl) (a_dv (e_var 1 rfl) a_nil)) (fun ds q => ⟨⟨wo, sp⟩, q, h3.1, rfl⟩)) ?_
  exact s_ret (e_cal C2 hr (by decide) (a_dv (e_var 0 rfl) (a_dv (e_var 1 rfl) a_nil)) (fun ds q => ⟨⟨wo, sp⟩, q, h3, rfl⟩))
theorem p_extension (D : DefAt K mg "extension" s_extension) (B : Nb mg) (C : Cal P w K mg base "check_support" 7 ["scenario", "support"] (spD T_check_support)) (C1 : Cal P w K mg base "check_between" 3 ["value", "low", "high"] (spD T_check_between)) (C2 : Cal P w K mg base "is_section_of" 3 ["scenario", "lot", "value"] (spD T_is_section_of)) (C3 : Cal P w K mg base "extensions_by" 4 ["scenario", "support", "at", "section"] (spD T_extensions_by)) : Cal P w K mg base "extension" 8 ["scenario", "support", "context", "section"] (spD T_extension) := by
  refine fn_D D c_extension (fun ds R ⟨i, h, _⟩ => by rw [h]; rfl) (fun _ _ _ _ _ _ us hl => match us, hl with | [_, _, _, _], _ => rfl) fun f cdv A outer s H E G0 H0 hr ds R ⟨⟨wo, sp, i, c⟩, h1, ⟨h3, hi, hc⟩, h2⟩ => ?_
  subst h1 h2
  dsimp only at h3 hi hc ⊢
  have hu := hr.units65
  have hlot := h3.lot hi
  have hrow := h3.row hi
  have l6 := h3.ok.lotLen hlot.1
  have l6' : (lotAt wo i).length ≤ 1000 := by omega
  refine s_expr (e_cal C hr (by decide) (a_dv (e_var 0 rfl) (a_dv (e_var 1 rfl) a_nil)) (fun ds q => ⟨⟨wo, sp⟩, q, h3, rfl⟩)) ?_
  refine s_expr (e_cal C1 hr (by decide) (a_dv (e_var 2 rfl) (a_dv e_int (a_dv (v_sub (v_len B.len (v_ixT (d := ttn wo.2) (i := 1) (e_var 0 rfl) e_int rfl) (.inr rfl) (List.length_map _)) e_int) a_nil))) (fun ds q => ⟨⟨(i : Int), 0, (wo.2.length : Int) - 1⟩, q, ⟨show (0 : Int) ≤ i by omega, show (i : Int) ≤ wo.2.length - 1 by omega⟩, rfl⟩)) ?_
  refine s_ifF (t_is (t_or (k1 := false) (k2 := false) (t_notV (t_call (k := true) (e_cal C2 hr (by decide) (a_dv (e_var 0 rfl) (a_dv (v_at (l := wo.2) (enc := tn) (v_ixT (d := ttn wo.2) (i := 1) (e_var 0 rfl) e_int rfl) (e_var 2 rfl) hlot.2) (a_dv (e_var 3 rfl) a_nil))) (fun ds q => ⟨⟨wo, lotAt wo i, c⟩, q, ⟨hrow.1.cell c hc, h3.ok.lt _ hlot.1, l6'⟩, rfl⟩))))
    (fun _ => t_is (t_notInX (enc := tn) (x := c) (l := rowAt sp i) hu pl_tn (by decide) (fun _ _ => tn_inj) (e_var 3 rfl) (v_at (l := sp) (enc := ttn) (e_var 1 rfl) (e_var 2 rfl) hrow.2) (.inr rfl)) (by simpa using hc))) rfl) ?_
  have hlen := ext_len (s := sp) h3.ok
  have hlen2 : (exts wo sp i c).length ≤ 64 := Nat.le_trans (List.length_filter_le _ _) hlen
  refine s_ret (v_ixL (ds := (exts wo sp i c).map tn ++ [.none]) (i := 0) (v_cat (e_cal C3 hr (by decide) (a_dv (e_var 0 rfl) (a_dv (e_var 1 rfl) (a_dv (e_var 2 rfl) (a_dv (e_var 3 rfl) a_nil)))) (fun ds q => ⟨⟨wo, sp, i, c⟩, q, ⟨h3, hi⟩, rfl⟩)) (DO.dv (o_lst (Q := fun ds => ds = [.none]) (a_dv e_non a_nil) (fun ds q => by rw [q]; exact Nat.le_of_ble_eq_true rfl))) ?_) e_int ?_)
  · rw [List.length_map, List.length_singleton]; omega
  · show atI ((exts wo sp i c).map tn ++ [.none]) 0 = some (headD (exts wo sp i c))
    cases exts wo sp i c with
    | nil => exact atI_nat (j := 0) rfl
    | cons g r => exact atI_nat (j := 0) rfl
end
end BT

/-! ## text L1 -/
set_option Elab.async false
set_option linter.all false
set_option maxRecDepth 100000
set_option maxHeartbeats 1000000
/-! L1: the law's defs without the bag. -/
namespace DL
open PySem PySem.Spec PyProof.Rows L2
section
variable {X : Cx} {c : DL.Ctx} {ρ : Rho} {pos : Pos} {e : Expr}
theorem o_list1 {p : Pos} {d : PyData} {ds : List PyData} (hm : X.mg "list" = none) (h : DV X c e ρ d) (hd : d = .list ds ∨ d = .tuple ds) (hg : Gl X "list" := by rfl) (he : starEach [e] X.env = (false, eval e X.env) :: starEach [] X.env := by rfl) (hpl : (backTo pos (starEach [] X.env)).any (·.1) = false := by rfl) :
    DO X c (.Call (.Name "list" p) [e] [] pos) ρ (fun r => r = ds) :=
  o_callTy call_list_of hm (a_dv h a_nil he) (fun ds q => q ▸ d_listOf hd) (by decide +kernel) hg (by decide) (by decide) he hpl
end
end DL
namespace BT
open PySem PySem.Spec PyProof.Rows L2 DL
def T_cells : PT := fun ds R => ∃ l d, ds = [d] ∧ (d = tn l ∨ d = ln l) ∧ (∀ i, (cells (l.take i)).length ≤ 1000) ∧ (∀ s ∈ l, s ≤ 4) ∧ l.length ≤ 1000 ∧ R = fun d => d = ltn (cells l)
def T_told : PT := fnT (fun p : List Nat × List Nat => [tn p.1, tn p.2]) (fun p => (∀ k ∈ p.2, k < p.1.length) ∧ p.2.length ≤ 1000) (fun p => tn (told p.1 p.2))
def T_part : PT := T_part_of
def T_common : PT := T_shared_by
section
variable {P : Program} {w : World} {K : PySem.W.Frag} {mg : Str → Option Value} {base : Heap}
/-- what is grown so far -/
theorem grow_take {l : List (List Nat)} {n i : Nat} {x : List Nat} (h : l[i]? = some x) : grow (l.take (i + 1)) n = grow (l.take i) n ++ (List.range n).map fun h => x ++ [h] := by
  unfold grow
  rw [List.take_add_one, h]
  simp [List.flatMap_append]
theorem cells_take {l : List Nat} {i x : Nat} (h : l[i]? = some x) : cells (l.take (i + 1)) = grow (cells (l.take i)) x := by
  rw [List.take_add_one, h]
  exact cells_snoc _ _
theorem p__law_cells (D : DefAt K mg "_law_cells" s__law_cells) (B : Nb mg) : Cal P w K mg base "_law_cells" 1 ["_law_sizes"] (spD T_cells) := by
  refine fn_D D c__law_cells (fun ds R ⟨l, d, h, _⟩ => by rw [h]; rfl) (fun _ _ _ _ _ _ us hl => match us, hl with | [_], _ => rfl) fun f cdv A outer s H E G0 H0 hr ds R ⟨l, d, h1, h3, h4, h5, h6, h2⟩ => ?_
  subst h1 h2
  refine s_setV 1 (v_lstO (ds' := [tn []]) (o_lst (Q := fun ds => ds = [tn []]) (a_dv (v_tup a_nil) a_nil) (fun ds q => by rw [q]; exact Nat.le_of_ble_eq_true rfl)) rfl) ?_ c__law_cells.nd
  refine s_for (xs := l) (enc := dn) (fun i ρ => ∃ x2 x3 x4 x5, ρ = [some (.dat d), some (.dat (ltn (cells (l.take i)))), x2, x3, x4, x5]) rfl (B := .one 2) (by rcases h3 with rfl | rfl; exact iv_tup (e_var 0 rfl); exact iv_list (e_var 0 rfl)) (tg_one (i := 2) c__law_cells.nd rfl (Or.inl rfl)) (Nat.le_of_ble_eq_true rfl) (fun _ _ => trivial) PassesOwn.never ⟨none, none, none, none, rfl⟩ ?_ ?_
  · rintro i x ρ' hx ⟨x2, x3, x4, x5, rfl⟩
    have hxl : x ∈ l := List.mem_of_getElem? hx
    have hs := h5 x hxl
    have hc := h4 i
    refine s_setV 3 (v_lstO o_nil rfl) ?_ c__law_cells.nd
    refine s_for (xs := cells (l.take i)) (enc := tn) (fun j ρ => ∃ x4 x5, ρ = [some (.dat d), some (.dat (ltn (cells (l.take i)))), some (.dat (dn x)), some (.dat (ltn (grow ((cells (l.take i)).take j) x))), x4, x5]) rfl (iv_list (e_var 1 rfl)) (tg_one (i := 4) c__law_cells.nd rfl (Or.inr rfl)) (Nat.le_of_ble_eq_true rfl) (fun _ _ => trivial) PassesOwn.never ⟨x4, x5, rfl⟩ ?_ ?_
    · rintro j y ρ' hy ⟨y4, y5, rfl⟩
      have hyl : y ∈ cells (l.take i) := List.mem_of_getElem? hy
      have hlen : ((cells (l.take i)).take j).length ≤ 1000 := by rw [List.length_take]; omega
      have hgl := grow_len ((cells (l.take i)).take j) x
      have hm := Nat.mul_le_mul hlen hs
      refine s_setV 3 (v_is (v_cat (e_var 3 rfl) (v_lst (o_map1 5 c__law_cells (iv_range1 (e_var 2 rfl) (by omega) B.range) (by rw [List.length_range]; omega) (f := fun h => tn (y ++ [h])) (fun h hh _ _ _ _ _ =>
        v_is (e_op op_catX (e_var 4 rfl) (v_tup (a_dv (e_var 5 rfl) a_nil)) fun d1 d2 q1 q2 => ?_) (d := .tuple (y.map dn ++ [dn h])) ?_)) rfl) ?_) ?_) (s_nil ⟨_, _, rfl⟩) c__law_cells.nd
      · rw [q1, q2]
        refine d_catT ?_
        have := cells_length hyl
        rw [List.length_take] at this
        rw [List.length_map, List.length_singleton]
        omega
      · unfold tn; rw [List.map_append]; rfl
      · rw [List.length_map, List.length_map, List.length_range]; omega
      · rw [grow_take hy]
        unfold ltn
        rw [List.map_append, List.map_map]; rfl
    · rintro ρ' ⟨y4, y5, rfl⟩
      rw [List.take_length, ← cells_take hx]
      exact s_setV 1 (e_var 3 rfl) (s_nil ⟨_, _, _, _, rfl⟩) c__law_cells.nd
  · rintro ρ' ⟨x2, x3, x4, x5, rfl⟩
    refine s_ret (v_is (e_var 1 rfl) ?_)
    rw [List.take_length]
theorem p__law_told (D : DefAt K mg "_law_told" s__law_told) (B : Nb mg) : Cal P w K mg base "_law_told" 1 ["_law_whole", "_law_arrow"] (spD T_told) := by
  refine fn_D D c__law_told (fun ds R ⟨i, h, _⟩ => by rw [h]; rfl) (fun _ _ _ _ _ _ us hl => match us, hl with | [_, _], _ => rfl) fun f cdv A outer s H E G0 H0 hr ds R ⟨⟨wh, ar⟩, h1, ⟨h3, h4⟩, h2⟩ => ?_
  subst h1 h2
  dsimp only at h3 h4 ⊢
  refine s_ret (v_tupL B.tuple (v_lst (o_map1 2 c__law_told (iv_tup (e_var 1 rfl)) (by omega) (f := fun k => dn (wh.getD k 0)) (fun x hx _ _ _ _ _ => v_at (l := wh) (e_var 0 rfl) (e_var 2 rfl) ?_)) ?_))
  · have hl := h3 x hx
    rw [List.getD_eq_getElem?_getD, List.getElem?_eq_getElem hl]; rfl
  · unfold told; rw [List.map_map]; rfl
theorem p__law_common (D : DefAt K mg "_law_common" s__law_common) (B : Nb mg) : Cal P w K mg base "_law_common" 1 ["_law_here", "_law_there"] (spD T_common) := by
  refine fn_D D c__law_common (fun ds R ⟨i, h, _⟩ => by rw [h]; rfl) (fun _ _ _ _ _ _ us hl => match us, hl with | [_, _], _ => rfl) fun f cdv A outer s H E G0 H0 hr ds R ⟨⟨a, b⟩, h1, h3, h2⟩ => ?_
  subst h1 h2
  dsimp only at h3 ⊢
  exact s_ret (v_tupL B.tuple (v_lst (o_flt1 2 c__law_common (iv_tup (e_var 0 rfl)) (by omega) (p := fun k => decide (k ∈ b)) (f := dn) (fun x hx _ _ _ _ _ => ts_one (t_in (e_var 2 rfl) (e_var 1 rfl) (.inl rfl))) (fun x hx _ _ _ _ _ _ => e_var 2 rfl)) rfl))
theorem p__law_part (D : DefAt K mg "_law_part" s__law_part) (B : Nb mg) : Cal P w K mg base "_law_part" 1 ["_law_cell", "_law_arrow", "_law_lesser"] (spD T_part) := by
  refine fn_D D c__law_part (fun ds R ⟨i, h, _⟩ => by rw [h]; rfl) (fun _ _ _ _ _ _ us hl => match us, hl with | [_, _, _], _ => rfl) fun f cdv A outer s H E G0 H0 hr ds R ⟨⟨cl, lot, less⟩, h1, ⟨h3, h4, h5⟩, h2⟩ => ?_
  subst h1 h2
  dsimp only at h3 h4 h5 ⊢
  refine s_ret (v_tupL B.tuple (v_lst (o_map1 3 c__law_part (iv_tup (e_var 2 rfl)) (by omega) (f := fun k => dn (cl.getD (lot.idxOf k) 0)) (fun x hx _ _ _ _ _ => v_at (l := cl) (e_var 0 rfl) (e_tupIx (e_var 1 rfl) (e_var 3 rfl) (h4 x hx)) ?_)) ?_))
  · have hl : lot.idxOf x < cl.length := by rw [h3]; exact List.idxOf_lt_length_iff.mpr (h4 x hx)
    rw [List.getD_eq_getElem?_getD, List.getElem?_eq_getElem hl]; rfl
  · unfold part; rw [List.map_map]; rfl
end
end BT

/-! ## text L2 -/
set_option Elab.async false
set_option linter.all false
set_option maxRecDepth 100000
set_option maxHeartbeats 1000000
/-! L2: sections, wholes, what is possible, what is shrunk, what is rid of. -/
namespace BT
open PySem PySem.Spec PyProof.Rows L2 DL
def T_sections : PT := fnT (fun p : Wd × Nat => [wd p.1, dn p.2]) (fun p => p.1.Ok ∧ p.2 < p.1.2.length) (fun p => ltn (secs p.1.1 (lotAt p.1 p.2)))
def T_possible : PT := fnT (fun p : Wd × Su => [wd p.1, tttn p.2]) (fun p => p.1.Ok ∧ p.2.length = p.1.2.length ∧ p.2.length ≤ 100) (fun p => ltn (poss p.1.1 p.1.2 p.2))
def T_of_wholes : PT := fnT (fun p : Wd × List (List Nat) => [wd p.1, ttn p.2]) (fun p => p.1.Ok ∧ p.1.2.length ≤ 100 ∧ p.2.length ≤ 1000 ∧ ∀ g ∈ p.2, g.length = p.1.1.length) (fun p => tttn (p.1.2.map (wholesRow p.2)))
def ll (s : Su) : PyData := .list (s.map ltn)
theorem pl_ll (s : Su) : Pl 3 (ll s) := Pl.lsts s pl_ltn
theorem ll_inj {a b : Su} (h : ll a = ll b) : a = b := map_inj (fun _ _ => ltn_inj) (PyData.list.inj h)
structure Rows (w : Wd) (s : Su) : Prop where
  ok : w.Ok
  few : w.2.length ≤ 100
  len : s.length = w.2.length
  row : ∀ i, i < w.2.length → (rowAt s i).length ≤ 1000
  cell : ∀ i, i < w.2.length → ∀ c ∈ rowAt s i, c.length = (lotAt w i).length
def T_shrunk : PT := fnT (fun p : Wd × Su => [wd p.1, .list (p.2.map ttn)]) (fun p => Rows p.1 p.2) (fun p => ll (shrN p.1.2 64 p.2))
def T_rid : PT := fnT (fun p : List (List Nat) × Nat => [ltn p.1, dn p.2]) (fun p => (∀ l ∈ p.1, l ≠ [] ∧ l.length ≤ 100) ∧ p.1.length ≤ 100 ∧ p.2 ≤ 100) (fun p => ttn (rid p.1 p.2))
theorem Wd.Ok.lotM {w : Wd} {i : Nat} (hi : i < w.2.length) : lotAt w i ∈ w.2 ∧ w.2[i]? = some (lotAt w i) := by
  unfold lotAt
  rw [List.getD_eq_getElem?_getD, List.getElem?_eq_getElem hi]
  exact ⟨List.getElem_mem hi, rfl⟩
theorem rowGet {s : Su} {i : Nat} (hi : i < s.length) : s[i]? = some (rowAt s i) := by
  unfold rowAt
  rw [List.getD_eq_getElem?_getD, List.getElem?_eq_getElem hi]; rfl
section
variable {P : Program} {w : World} {K : PySem.W.Frag} {mg : Str → Option Value} {base : Heap}
theorem p__law_sections (D : DefAt K mg "_law_sections" s__law_sections) (C : Cal P w K mg base "_law_cells" 1 ["_law_sizes"] (spD T_cells)) : Cal P w K mg base "_law_sections" 2 ["_law_world", "_law_spot"] (spD T_sections) := by
  refine fn_D D c__law_sections (fun ds R ⟨i, h, _⟩ => by rw [h]; rfl) (fun _ _ _ _ _ _ us hl => match us, hl with | [_, _], _ => rfl) fun f cdv A outer s H E G0 H0 hr ds R ⟨⟨wo, i⟩, h1, ⟨h3, hi⟩, h2⟩ => ?_
  subst h1 h2
  dsimp only at h3 hi ⊢
  have hm := Wd.Ok.lotM hi
  have h6 := h3.lotLen hm.1
  refine s_ret (e_cal C hr (by decide) (a_dv (v_lst (ds' := (szs wo.1 (lotAt wo i)).map dn) (o_map1 2 c__law_sections (xs := lotAt wo i) (enc := dn) (iv_tup (v_at (l := wo.2) (enc := tn) (v_ixT (d := ttn wo.2) (i := 1) (e_var 0 rfl) e_int rfl) (e_var 1 rfl) hm.2)) (by omega) (f := fun k => dn (wo.1.getD k 0))
    (fun x hx _ _ _ _ _ => v_at (l := wo.1) (v_ixT (d := tn wo.1) (i := 0) (e_var 0 rfl) e_int rfl) (e_var 2 rfl) ?_)) ?_) a_nil) (fun ds q => ⟨szs wo.1 (lotAt wo i), _, q, .inr rfl, fun j => ?_, fun s hs => ?_, ?_, rfl⟩))
  · have hk := h3.lt _ hm.1 x hx
    rw [List.getD_eq_getElem?_getD, List.getElem?_eq_getElem hk]; rfl
  · unfold szs; rw [List.map_map]; rfl
  · exact Nat.le_trans (h3.secs_count hm.1 j) (by decide)
  · exact (h3.each s ((szs_sub (h3.asc _ hm.1) (h3.lt _ hm.1)).mem hs)).2
  · unfold szs; rw [List.length_map]; omega
theorem p__law_possible (D : DefAt K mg "_law_possible" s__law_possible) (B : Nb mg) (C : Cal P w K mg base "_law_cells" 1 ["_law_sizes"] (spD T_cells)) (C2 : Cal P w K mg base "_law_told" 1 ["_law_whole", "_law_arrow"] (spD T_told)) : Cal P w K mg base "_law_possible" 2 ["_law_world", "_law_rows"] (spD T_possible) := by
  refine fn_D D c__law_possible (fun ds R ⟨i, h, _⟩ => by rw [h]; rfl) (fun _ _ _ _ _ _ us hl => match us, hl with | [_, _], _ => rfl) fun f cdv A outer s H E G0 H0 hr ds R ⟨⟨wo, sp⟩, h1, ⟨h3, h4, h5⟩, h2⟩ => ?_
  subst h1 h2
  dsimp only at h3 h4 h5 ⊢
  have hu := hr.units65
  have h6 := h3.some.2
  have hcnt : ∀ i, (cells (wo.1.take i)).length ≤ 64 := fun i => by
    rw [cells_count]
    exact Nat.le_trans (prod_take _ _ fun s hs => by have := h3.each s hs; omega) h3.prod
  refine s_own 2 o_nil (fun ds q => ?_) c__law_possible.nd
  subst q
  let good : List Nat → Bool := fun g => decide (((List.range sp.length).filter fun k => !decide (told g (lotAt wo k) ∈ rowAt sp k)) = [])
  refine s_for (xs := cells wo.1) (enc := tn) (fun i ρ => ∃ x3 x4, ρ = [some (.dat (wd wo)), some (.dat (tttn sp)), some (.own ((((cells wo.1).take i).filter good).map tn)), x3, x4]) rfl
    (iv_list (e_cal C hr (by decide) (a_dv (v_ixT (d := tn wo.1) (i := 0) (e_var 0 rfl) e_int rfl) a_nil) (fun ds q => ⟨wo.1, _, q, .inl rfl, fun j => Nat.le_trans (hcnt j) (by decide), fun s hs => (h3.each s hs).2, by omega, rfl⟩))) (tg_one (i := 3) c__law_possible.nd rfl (Or.inr rfl)) (Nat.le_of_ble_eq_true rfl) (fun _ _ => trivial) PassesOwn.never ⟨none, none, rfl⟩ ?_ ?_
  · rintro i x ρ' hx ⟨x3, x4, rfl⟩
    have hxl : x ∈ cells wo.1 := List.mem_of_getElem? hx
    have hlen := cells_length hxl
    have hc := hcnt wo.1.length
    rw [List.take_length] at hc
    have hnext : ((cells wo.1).take (i + 1)).filter good = ((cells wo.1).take i).filter good ++ (if good x then [x] else []) := by
      rw [List.take_add_one, hx, List.filter_append]
      congr 1
      simp [List.filter_cons]
    refine s_if (Q := fun k => k = good x) (P1 := fun ρ => ∃ x3 x4, ρ = [some (.dat (wd wo)), some (.dat (tttn sp)), some (.own ((((cells wo.1).take (i + 1)).filter good).map tn)), x3, x4])
      (t_is (t_eqE (enc := ln) (x := (List.range sp.length).filter fun k => !decide (told x (lotAt wo k) ∈ rowAt sp k)) (y := []) hr.units pl_ln (by decide) (fun _ _ => ln_inj) (v_lst (o_flt1 4 c__law_possible (iv_range1 (v_len B.len (e_var 1 rfl) (.inr rfl) (List.length_map _)) (by omega) B.range) (by rw [List.length_range]; omega) (p := fun k => !decide (told x (lotAt wo k) ∈ rowAt sp k)) (f := dn)
        (fun k hk _ _ _ _ _ => ts_one (t_is (t_notInX (enc := tn) (x := told x (lotAt wo k)) (l := rowAt sp k) hu pl_tn (by decide) (fun _ _ => tn_inj) (e_cal C2 (hr.mono (by decide)) (Nat.le_refl _) (a_dv (e_var 3 rfl) (a_dv (v_at (l := wo.2) (enc := tn) (v_ixT (d := ttn wo.2) (i := 1) (e_var 0 rfl) e_int rfl) (e_var 4 rfl) (Wd.Ok.lotM ?_).2) a_nil)) (fun ds q => ⟨⟨x, lotAt wo k⟩, q, ?_, rfl⟩)) (v_at (l := sp) (enc := ttn) (e_var 1 rfl) (e_var 4 rfl) (rowGet ?_)) (.inr rfl)) (by congr))) (fun k hk q _ _ _ _ _ => e_var 4 rfl)) rfl) (DO.dv o_nil)) rfl) ?_ ?_ (fun ρ' z => s_nil z)
    · have := List.mem_range.mp hk; omega
    · have := List.mem_range.mp hk
      have hm := Wd.Ok.lotM (w := wo) (i := k) (by omega)
      have l6 := h3.lotLen hm.1
      exact ⟨fun j hj => by show j < x.length; rw [hlen]; exact h3.lt _ hm.1 j hj, Nat.le_trans l6 (by decide)⟩
    · exact List.mem_range.mp hk
    · intro q
      have hf := List.length_filter_le good ((cells wo.1).take i)
      rw [List.length_take] at hf
      rw [hnext, if_pos q.symm, List.map_append]
      refine s_append 2 rfl (e_var 3 rfl) (by rw [List.length_map]; omega) (fun d q2 => ?_)
      subst q2
      exact s_nil ⟨_, _, rfl⟩
    · intro q
      rw [hnext, if_neg (by rw [← q]; decide), List.append_nil]
      exact s_nil ⟨_, _, rfl⟩
  · rintro ρ' ⟨x3, x4, rfl⟩
    rw [List.take_length]
    exact s_freeze 2 rfl (s_ret (e_var 2 rfl))
theorem p__law_of_wholes (D : DefAt K mg "_law_of_wholes" s__law_of_wholes) (B : Nb mg) (C2 : Cal P w K mg base "_law_told" 1 ["_law_whole", "_law_arrow"] (spD T_told)) : Cal P w K mg base "_law_of_wholes" 2 ["_law_world", "_law_wholes"] (spD T_of_wholes) := by
  refine fn_D D c__law_of_wholes (fun ds R ⟨i, h, _⟩ => by rw [h]; rfl) (fun _ _ _ _ _ _ us hl => match us, hl with | [_, _], _ => rfl) fun f cdv A outer s H E G0 H0 hr ds R ⟨⟨wo, wh⟩, h1, ⟨h3, h4, h5, h6⟩, h2⟩ => ?_
  subst h1 h2
  dsimp only at h3 h4 h5 h6 ⊢
  have hu := hr.units65
  refine s_own 2 o_nil (fun ds q => ?_) c__law_of_wholes.nd
  subst q
  refine s_for (xs := wo.2) (enc := tn) (fun i ρ => ∃ x3 x4 x5 x6, ρ = [some (.dat (wd wo)), some (.dat (ttn wh)), some (.own ((wo.2.take i).map fun a => ttn (wholesRow wh a))), x3, x4, x5, x6]) rfl
    (iv_tup (v_ixT (d := ttn wo.2) (i := 1) (e_var 0 rfl) e_int rfl)) (tg_one (i := 3) c__law_of_wholes.nd rfl (Or.inl rfl)) (Nat.le_of_ble_eq_true rfl) (fun _ _ => trivial) PassesOwn.never ⟨none, none, none, none, rfl⟩ ?_ ?_
  · rintro i x ρ' hx ⟨x3, x4, x5, x6, rfl⟩
    have hxl : x ∈ wo.2 := List.mem_of_getElem? hx
    have l6 := h3.lotLen hxl
    have hne := h3.ne x hxl
    refine s_own 4 o_nil (fun ds q => ?_) c__law_of_wholes.nd
    subst q
    refine s_for (xs := wh) (enc := tn) (fun j ρ => ∃ x5 x6, ρ = [some (.dat (wd wo)), some (.dat (ttn wh)), some (.own ((wo.2.take i).map fun a => ttn (wholesRow wh a))), some (.dat (tn x)), some (.own ((dedup ((wh.map fun g => told g x).take j)).map tn)), x5, x6]) rfl
      (iv_tup (e_var 1 rfl)) (tg_one (i := 5) c__law_of_wholes.nd rfl (Or.inl rfl)) (Nat.le_of_ble_eq_true rfl) (fun _ _ => trivial) PassesOwn.never ⟨_, _, rfl⟩ ?_ ?_
    · rintro j y ρ' hy ⟨y5, y6, rfl⟩
      have hyl : y ∈ wh := List.mem_of_getElem? hy
      have hd := dedup_len ((wh.map fun g => told g x).take j)
      rw [List.length_take, List.length_map] at hd
      have hnext : dedup ((wh.map fun g => told g x).take (j + 1)) = addNew (dedup ((wh.map fun g => told g x).take j)) (told y x) := dedup_take (by rw [List.getElem?_map, hy]; rfl)
      generalize dedup ((wh.map fun g => told g x).take j) = acc at hd hnext ⊢
      rw [hnext]
      refine s_setV 6 (e_cal C2 hr (by decide) (a_dv (e_var 5 rfl) (a_dv (e_var 3 rfl) a_nil)) (fun ds q => ⟨⟨y, x⟩, q, ⟨fun k hk => by show k < y.length; rw [h6 y hyl]; exact h3.lt x hxl k hk, Nat.le_trans l6 (by decide)⟩, rfl⟩)) ?_ c__law_of_wholes.nd
      refine s_if (Q := fun k => k = !decide (told y x ∈ acc)) (P1 := fun ρ => ∃ x5 x6, ρ = [some (.dat (wd wo)), some (.dat (ttn wh)), some (.own ((wo.2.take i).map fun a => ttn (wholesRow wh a))), some (.dat (tn x)), some (.own ((addNew acc (told y x)).map tn)), x5, x6])
        (t_thaw 4 rfl (t_is (t_notInX (enc := tn) (x := told y x) (l := acc) hu pl_tn (by decide) (fun _ _ => tn_inj) (e_var 6 rfl) (e_var 4 rfl) (.inl rfl)) (by congr))) ?_ ?_ (fun ρ' z => s_nil z)
      · intro q
        have hq : told y x ∉ acc := by simpa using q.symm
        unfold addNew
        rw [if_neg hq, List.map_append]
        refine s_append 4 rfl (e_var 6 rfl) (by rw [List.length_map]; omega) (fun d q2 => ?_)
        subst q2
        exact s_nil ⟨_, _, rfl⟩
      · intro q
        have hq : told y x ∈ acc := by simpa using q.symm
        unfold addNew
        rw [if_pos hq]
        exact s_nil ⟨_, _, rfl⟩
    · rintro ρ' ⟨y5, y6, rfl⟩
      have hd := dedup_len (wh.map fun g => told g x)
      rw [List.length_map] at hd
      rw [List.take_of_length_le (l := wh.map fun g => told g x) (by rw [List.length_map]; exact Nat.le_refl _)]
      have hti : (wo.2.take i).length ≤ wo.2.length := by rw [List.length_take]; omega
      have hnext : (wo.2.take (i + 1)).map (fun a => ttn (wholesRow wh a)) = (wo.2.take i).map (fun a => ttn (wholesRow wh a)) ++ [ttn (wholesRow wh x)] := by
        rw [List.take_add_one, hx, List.map_append]; rfl
      rw [hnext]
      refine s_freeze 4 rfl ?_
      refine s_append 2 rfl (v_tupL B.tuple (v_lstO (o_sortedT (l := dedup (wh.map fun g => told g x)) hr.units B.sorted (e_var 4 rfl) (fun b hb e => ?_) (by omega)) rfl)) (by rw [List.length_map]; omega) (fun d q2 => ?_)
      · obtain ⟨g, hg, rfl⟩ := List.mem_map.mp (mem_dedup.mp hb)
        unfold told at e
        exact hne (List.map_eq_nil_iff.mp e)
      · subst q2
        exact s_nil ⟨_, _, _, _, rfl⟩
  · rintro ρ' ⟨x3, x4, x5, x6, rfl⟩
    rw [List.take_length]
    refine s_freeze 2 rfl (s_ret (v_tupL B.tuple (v_is (e_var 2 rfl) ?_)))
    show PyData.list _ = PyData.list _
    rw [List.map_map]; rfl
end
end BT

/-! ## text L3 -/
set_option Elab.async false
set_option linter.all false
set_option maxRecDepth 100000
set_option maxHeartbeats 1000000
/-! L3: what is shrunk. -/
namespace BT
open PySem PySem.Spec PyProof.Rows L2 DL
section
variable {α β : Type}
theorem take_filter {l : List α} {i : Nat} {x : α} {p : α → Bool} (h : l[i]? = some x) : (l.take (i + 1)).filter p = (l.take i).filter p ++ (if p x then [x] else []) := by
  rw [List.take_add_one, h, List.filter_append]
  congr 1
  simp [List.filter_cons]
theorem take_map {l : List α} {i : Nat} {x : α} {f : α → β} (h : l[i]? = some x) : (l.take (i + 1)).map f = (l.take i).map f ++ [f x] := by
  rw [List.take_add_one, h, List.map_append]; rfl
theorem take_all {l : List α} {i : Nat} {x : α} {p : α → Bool} (h : l[i]? = some x) : (l.take (i + 1)).all p = ((l.take i).all p && p x) := by
  rw [List.take_add_one, h, List.all_append]
  simp
end
theorem rowAt_step {ctx : List (List Nat)} {s : Su} {i : Nat} (hi : i < s.length) : rowAt (shrStep ctx s) i = shrRow ctx s i := by
  unfold rowAt shrStep
  rw [List.getD_eq_getElem?_getD, List.getElem?_map, List.getElem?_range hi]; rfl
theorem Rows.step {w : Wd} {s : Su} (h : Rows w s) : Rows w (shrStep w.2 s) where
  ok := h.ok
  few := h.few
  len := by unfold shrStep; rw [List.length_map, List.length_range]; exact h.len
  row := fun i hi => by
    rw [rowAt_step (by rw [h.len]; exact hi)]
    exact Nat.le_trans (List.length_filter_le _ _) (h.row i hi)
  cell := fun i hi c hc => by
    rw [rowAt_step (by rw [h.len]; exact hi)] at hc
    exact h.cell i hi c (List.mem_filter.mp hc).1
section
variable {P : Program} {w : World} {K : PySem.W.Frag} {mg : Str → Option Value} {base : Heap}
theorem p__law_shrunk (D : DefAt K mg "_law_shrunk" s__law_shrunk) (B : Nb mg) (C : Cal P w K mg base "_law_common" 1 ["_law_here", "_law_there"] (spD T_common)) (C2 : Cal P w K mg base "_law_part" 1 ["_law_cell", "_law_arrow", "_law_lesser"] (spD T_part)) : Cal P w K mg base "_law_shrunk" 2 ["_law_world", "_law_rows"] (spD T_shrunk) := by
  refine fn_D D c__law_shrunk (fun ds R ⟨i, h, _⟩ => by rw [h]; rfl) (fun _ _ _ _ _ _ us hl => match us, hl with | [_, _], _ => rfl) fun f cdv A outer s H E G0 H0 hr ds R ⟨⟨wo, sp⟩, h1, h3, h2⟩ => ?_
  subst h1 h2
  dsimp only at h3 ⊢
  have hu := hr.units65
  have few := h3.few
  have hlen := h3.len
  refine s_setLc 2 (o_map1 3 c__law_shrunk (iv_list (e_var 1 rfl)) (by omega) (f := ltn) (fun x hx _ _ _ _ _ => v_lstO (o_list1 B.list (e_var 3 rfl) (.inr rfl)) rfl)) ?_
  refine s_for (xs := List.range 64) (enc := dn) (fun i ρ => ∃ cur x3 x4 x5 x6 x7 x8 x9 x10 x11 x12 x13, Rows wo cur ∧ shrN wo.2 (64 - i) cur = shrN wo.2 64 sp ∧ ρ = [some (.dat (wd wo)), some (.dat (.list (sp.map ttn))), some (.dat (ll cur)), x3, x4, x5, x6, x7, x8, x9, x10, x11, x12, x13]) rfl
    (iv_range1 (n := 64) e_int (by omega) B.range) (tg_one (i := 4) c__law_shrunk.nd rfl (Or.inl rfl)) (Nat.le_of_ble_eq_true rfl) (fun _ _ => trivial) PassesOwn.never ⟨sp, _, _, _, _, _, _, _, _, _, _, _, h3, rfl, rfl⟩ ?_ ?_
  · rintro i t ρ' ht ⟨cur, x3, x4, x5, x6, x7, x8, x9, x10, x11, x12, x13, hR, hsh, rfl⟩
    have hi64 : i < 64 := by have := (List.getElem?_eq_some_iff.mp ht).1; simpa using this
    have hcl := hR.len
    refine s_own 5 o_nil (fun ds q => ?_) c__law_shrunk.nd
    subst q
    refine s_for (xs := List.range cur.length) (enc := dn) (fun i ρ => ∃ x6 x7 x8 x9 x10 x11 x12 x13, ρ = [some (.dat (wd wo)), some (.dat (.list (sp.map ttn))), some (.dat (ll cur)), x3, some (.dat (dn t)), some (.own (((List.range cur.length).take i).map fun o => ltn (shrRow wo.2 cur o))), x6, x7, x8, x9, x10, x11, x12, x13]) rfl
      (iv_range1 (v_len B.len (e_var 2 rfl) (.inl rfl) (List.length_map _)) (by omega) B.range) (tg_one (i := 6) c__law_shrunk.nd rfl (Or.inl rfl)) (Nat.le_of_ble_eq_true rfl) (fun _ _ => trivial) PassesOwn.never ⟨_, _, _, _, _, _, _, _, rfl⟩ ?_ ?_
    · rintro i1 o ρ' ho ⟨x6, x7, x8, x9, x10, x11, x12, x13, rfl⟩
      have ho' : o < cur.length := List.mem_range.mp (List.mem_of_getElem? ho)
      have hlo := Wd.Ok.lotM (w := wo) (i := o) (by omega)
      have l6 := h3.ok.lotLen hlo.1
      have l6' : (lotAt wo o).length ≤ 1000 := by omega
      refine s_own 7 o_nil (fun ds q => ?_) c__law_shrunk.nd
      subst q
      have hro := hR.row o (by omega)
      refine s_for (xs := rowAt cur o) (enc := tn) (fun i ρ => ∃ x8 x9 x10 x11 x12 x13, ρ = [some (.dat (wd wo)), some (.dat (.list (sp.map ttn))), some (.dat (ll cur)), x3, some (.dat (dn t)), some (.own (((List.range cur.length).take i1).map fun o => ltn (shrRow wo.2 cur o))), some (.dat (dn o)), some (.own ((((rowAt cur o).take i).filter fun c => (List.range cur.length).all (shrFits wo.2 cur o c)).map tn)), x8, x9, x10, x11, x12, x13]) rfl
        (iv_list (v_ixL (e_var 2 rfl) (e_var 6 rfl) (atI_map (rowGet ho')))) (tg_one (i := 8) c__law_shrunk.nd rfl (Or.inl rfl)) (Nat.le_of_ble_eq_true rfl) (fun _ _ => trivial) PassesOwn.never ⟨_, _, _, _, _, _, rfl⟩ ?_ ?_
      · rintro i2 c ρ' hc ⟨x8, x9, x10, x11, x12, x13, rfl⟩
        have hcm : c ∈ rowAt cur o := List.mem_of_getElem? hc
        have hcl2 := hR.cell o (by omega) c hcm
        rw [take_filter hc]
        have hf := List.length_filter_le (fun c => (List.range cur.length).all (shrFits wo.2 cur o c)) ((rowAt cur o).take i2)
        rw [List.length_take] at hf
        generalize ((rowAt cur o).take i2).filter (fun c => (List.range cur.length).all (shrFits wo.2 cur o c)) = acc at hf ⊢
        refine s_setV 9 e_bl ?_ c__law_shrunk.nd
        refine s_for (xs := List.range cur.length) (enc := dn) (fun i ρ => ∃ x10 x11 x12 x13, ρ = [some (.dat (wd wo)), some (.dat (.list (sp.map ttn))), some (.dat (ll cur)), x3, some (.dat (dn t)), some (.own (((List.range cur.length).take i1).map fun o => ltn (shrRow wo.2 cur o))), some (.dat (dn o)), some (.own (acc.map tn)), some (.dat (tn c)), some (.dat (.bool (((List.range cur.length).take i).all (shrFits wo.2 cur o c)))), x10, x11, x12, x13]) rfl
          (iv_range1 (v_len B.len (e_var 2 rfl) (.inl rfl) (List.length_map _)) (by omega) B.range) (tg_one (i := 10) c__law_shrunk.nd rfl (Or.inr rfl)) (Nat.le_of_ble_eq_true rfl) (fun _ _ => trivial) PassesOwn.never ⟨_, _, _, _, rfl⟩ ?_ ?_
        · rintro i3 j ρ' hj ⟨x10, x11, x12, x13, rfl⟩
          have hj' : j < cur.length := List.mem_range.mp (List.mem_of_getElem? hj)
          have hlj := Wd.Ok.lotM (w := wo) (i := j) (by omega)
          have hrj := hR.row j (by omega)
          have hcm' := common_len (lotAt wo o) (lotAt wo j)
          have hcm6 : (common (lotAt wo o) (lotAt wo j)).length ≤ 1000 := by omega
          rw [take_all hj]
          refine s_setV 11 (e_cal C hr (by decide) (a_dv (v_at (l := wo.2) (enc := tn) (v_ixT (d := ttn wo.2) (i := 1) (e_var 0 rfl) e_int rfl) (e_var 6 rfl) hlo.2) (a_dv (v_at (l := wo.2) (enc := tn) (v_ixT (d := ttn wo.2) (i := 1) (e_var 0 rfl) e_int rfl) (e_var 10 rfl) hlj.2) a_nil)) (fun ds q => ⟨⟨lotAt wo o, lotAt wo j⟩, q, l6', rfl⟩)) ?_ c__law_shrunk.nd
          refine s_setV 12 (e_cal C2 hr (by decide) (a_dv (e_var 8 rfl) (a_dv (v_at (l := wo.2) (enc := tn) (v_ixT (d := ttn wo.2) (i := 1) (e_var 0 rfl) e_int rfl) (e_var 6 rfl) hlo.2) (a_dv (e_var 11 rfl) a_nil))) (fun ds q => ⟨⟨c, lotAt wo o, common (lotAt wo o) (lotAt wo j)⟩, q, ⟨hcl2, fun k hk => (mem_common.mp hk).1, hcm6⟩, rfl⟩)) ?_ c__law_shrunk.nd
          refine s_setV 9 (e_and (k2 := shrFits wo.2 cur o c j) (e_var 9 rfl) (fun _ => e_one (v_is (v_inX (enc := tn) (x := part c (lotAt wo o) (common (lotAt wo o) (lotAt wo j))) (l := (rowAt cur j).map fun e => part e (lotAt wo j) (common (lotAt wo o) (lotAt wo j))) hu pl_tn (by decide) (fun _ _ => tn_inj) (e_var 12 rfl)
            (v_lst (o_map1 13 c__law_shrunk (xs := rowAt cur j) (enc := tn) (iv_list (v_ixL (e_var 2 rfl) (e_var 10 rfl) (atI_map (rowGet hj')))) (by omega) (f := fun e => tn (part e (lotAt wo j) (common (lotAt wo o) (lotAt wo j))))
              (fun e he _ _ _ _ _ => e_cal C2 (hr.mono (by decide)) (Nat.le_refl _) (a_dv (e_var 13 rfl) (a_dv (v_at (l := wo.2) (enc := tn) (v_ixT (d := ttn wo.2) (i := 1) (e_var 0 rfl) e_int rfl) (e_var 10 rfl) hlj.2) (a_dv (e_var 11 rfl) a_nil))) (fun ds q => ⟨⟨e, lotAt wo j, common (lotAt wo o) (lotAt wo j)⟩, q, ⟨hR.cell j (by omega) e he, fun k hk => (mem_common.mp hk).2, hcm6⟩, rfl⟩))) (by rw [List.map_map]; rfl)) (.inl rfl)) ?_))) (s_nil ⟨_, _, _, _, rfl⟩) c__law_shrunk.nd
          unfold shrFits
          congr
        · rintro ρ' ⟨x10, x11, x12, x13, rfl⟩
          rw [List.take_of_length_le (Nat.le_refl _)]
          generalize (List.range cur.length).all (shrFits wo.2 cur o c) = good
          refine s_if (Q := fun k => k = good) (P1 := fun ρ => ∃ x8 x9 x10 x11 x12 x13, ρ = [some (.dat (wd wo)), some (.dat (.list (sp.map ttn))), some (.dat (ll cur)), x3, some (.dat (dn t)), some (.own (((List.range cur.length).take i1).map fun o => ltn (shrRow wo.2 cur o))), some (.dat (dn o)), some (.own ((acc ++ (if good = true then [c] else [])).map tn)), x8, x9, x10, x11, x12, x13])
            (t_name (e_var 9 rfl)) ?_ ?_ (fun ρ' z => s_nil z)
          · intro q
            rw [if_pos q.symm, List.map_append]
            refine s_append 7 rfl (e_var 8 rfl) (by rw [List.length_map]; omega) (fun d q2 => ?_)
            subst q2
            exact s_nil ⟨_, _, _, _, _, _, rfl⟩
          · intro q
            rw [if_neg (by rw [← q]; decide), List.append_nil]
            exact s_nil ⟨_, _, _, _, _, _, rfl⟩
      · rintro ρ' ⟨x8, x9, x10, x11, x12, x13, rfl⟩
        rw [List.take_length, take_map ho]
        have hti : ((List.range cur.length).take i1).length ≤ cur.length := by rw [List.length_take, List.length_range]; omega
        refine s_freeze 7 rfl (s_append 5 rfl (e_var 7 rfl) (by rw [List.length_map]; omega) (fun d q2 => ?_))
        subst q2
        exact s_nil ⟨_, _, _, _, _, _, _, _, rfl⟩
    · rintro ρ' ⟨x6, x7, x8, x9, x10, x11, x12, x13, rfl⟩
      rw [List.take_of_length_le (Nat.le_refl _)]
      have est : ((List.range cur.length).map fun o => ltn (shrRow wo.2 cur o)) = (shrStep wo.2 cur).map ltn := by unfold shrStep; rw [List.map_map]; rfl
      rw [est]
      have hk : 64 - i = (64 - (i + 1)) + 1 := by omega
      rw [hk] at hsh
      refine s_ifR (Q := fun k => k = decide (shrStep wo.2 cur = cur)) (t_thaw 5 rfl (t_is (t_eqE (enc := ll) (x := shrStep wo.2 cur) (y := cur) hr.units pl_ll (by decide) (fun _ _ => ll_inj) (e_var 5 rfl) (e_var 2 rfl)) (by congr))) (fun q => s_ret (v_is (e_var 2 rfl) ?_)) (fun q => ?_)
      · have q' : shrStep wo.2 cur = cur := by simpa using q.symm
        show ll cur = ll (shrN wo.2 64 sp)
        rw [← hsh]
        unfold shrN
        rw [if_pos q']
      · have q' : shrStep wo.2 cur ≠ cur := by simpa using q.symm
        refine s_freeze 5 rfl (s_setV 2 (e_var 5 rfl) (s_nil ⟨shrStep wo.2 cur, _, _, _, _, _, _, _, _, _, _, _, hR.step, ?_, rfl⟩) c__law_shrunk.nd)
        rw [← hsh]
        conv => rhs; unfold shrN
        rw [if_neg q']
  · rintro ρ' ⟨cur, x3, x4, x5, x6, x7, x8, x9, x10, x11, x12, x13, hR, hsh, rfl⟩
    refine s_ret (v_is (e_var 2 rfl) ?_)
    rw [List.length_range] at hsh
    show ll cur = ll (shrN wo.2 64 sp)
    rw [← hsh]; rfl
end
end BT

/-! ## text L4 -/
set_option Elab.async false
set_option linter.all false
set_option maxRecDepth 100000
set_option maxHeartbeats 1000000
/-! L4: lots that lie in no other; rows of a ring, of a star. -/
namespace BT
open PySem PySem.Spec PyProof.Rows L2 DL
def capR (ring : List Nat) (v : Nat) : Nat := if v ∈ ring then 1 else 0
def lowOk (lot ring cell : List Nat) : Bool := decide (((List.range cell.length).filter fun k => decide (capR ring (lot.getD k 0) < cell.getD k 0)) = [])
def innerOf (lot ring : List Nat) : List Nat := lot.filter fun k => decide (k ∈ ring)
def valAt (lot cell : List Nat) (k : Nat) : Nat := cell.getD (lot.idxOf k) 0
def tiedB (ring : List Nat) (a b : Nat) : Bool := decide (srt [ring.idxOf a, ring.idxOf b] = [0, ring.length - 1])
def ringFits (lot ring cell : List Nat) : Bool :=
  match innerOf lot ring with
  | [a, b] => lowOk lot ring cell && ((!decide (valAt lot cell a = valAt lot cell b)) == tiedB ring a b)
  | _ => lowOk lot ring cell
def onesOf (lot ring cell : List Nat) : Nat := ((innerOf lot ring).map (valAt lot cell)).sum
def starFits (lot corner cell : List Nat) : Bool := lowOk lot corner cell && (decide (onesOf lot corner cell = 1) || (decide (onesOf lot corner cell = 0) && decide ((innerOf lot corner).length < corner.length - 1)))
def T_ring_row : PT := fnT (fun p : Wd × Nat × List Nat => [wd p.1, dn p.2.1, ln p.2.2]) (fun p => p.1.Ok ∧ p.2.1 < p.1.2.length ∧ 1 ≤ p.2.2.length ∧ p.2.2.length ≤ 60) (fun p => ttn ((secs p.1.1 (lotAt p.1 p.2.1)).filter (ringFits (lotAt p.1 p.2.1) p.2.2)))
def T_star_row : PT := fnT (fun p : Wd × Nat × List Nat => [wd p.1, dn p.2.1, ln p.2.2]) (fun p => p.1.Ok ∧ p.2.1 < p.1.2.length ∧ 1 ≤ p.2.2.length ∧ p.2.2.length ≤ 60) (fun p => ttn ((secs p.1.1 (lotAt p.1 p.2.1)).filter (starFits (lotAt p.1 p.2.1) p.2.2)))
section
variable {P : Program} {w : World} {K : PySem.W.Frag} {mg : Str → Option Value} {base : Heap}
theorem every_ne {lots : List (List Nat)} {many : Nat} (h : ∀ l ∈ lots, l ≠ []) : ∀ l ∈ lots ++ ((List.range many).filter fun k => !decide (k ∈ lots.flatten)).map fun k => [k], l ≠ [] := by
  intro l hl
  rcases List.mem_append.mp hl with q | q
  · exact h l q
  · obtain ⟨k, _, rfl⟩ := List.mem_map.mp q
    simp
theorem take_foldl {α β : Type} {l : List α} {i : Nat} {x : α} {f : β → α → β} {b : β} (h : l[i]? = some x) : (l.take (i + 1)).foldl f b = f ((l.take i).foldl f b) x := by
  rw [List.take_add_one, h, List.foldl_append]; rfl
theorem ridStep_len (ev : List (List Nat)) : ∀ (l acc : List (List Nat)), (l.foldl (ridStep ev) acc).length ≤ acc.length + l.length
  | [], acc => by simp
  | x :: l, acc => by
    rw [List.foldl_cons]
    refine Nat.le_trans (ridStep_len ev l _) ?_
    unfold ridStep
    split <;> simp <;> omega
theorem p__law_rid (D : DefAt K mg "_law_rid" s__law_rid) (B : Nb mg) (C : Cal P w K mg base "_law_common" 1 ["_law_here", "_law_there"] (spD T_common)) : Cal P w K mg base "_law_rid" 2 ["_law_lots", "_law_many"] (spD T_rid) := by
  refine fn_D D c__law_rid (fun ds R ⟨i, h, _⟩ => by rw [h]; rfl) (fun _ _ _ _ _ _ us hl => match us, hl with | [_, _], _ => rfl) fun f cdv A outer s H E G0 H0 hr ds R ⟨⟨lots, many⟩, h1, ⟨h3, h4, h5⟩, h2⟩ => ?_
  subst h1 h2
  dsimp only at h3 h4 h5 ⊢
  have hu := hr.units65
  have hfl : ∀ i, ((lots.take i).flatten).length ≤ 10000 := fun i => by
    have h6 := flat_len (M := 100) (fun l : List Nat => l) (lots.take i) fun l hl => (h3 l (List.mem_of_mem_take hl)).2
    have h7 : (lots.take i).length ≤ 100 := by rw [List.length_take]; omega
    have := Nat.mul_le_mul_right 100 h7
    have e : (lots.take i).flatMap (fun l : List Nat => l) = (lots.take i).flatten := by simp [List.flatMap]
    rw [e] at h6
    omega
  refine s_setV 2 (v_lstO (ds' := []) o_nil rfl) ?_ c__law_rid.nd
  refine s_for (xs := lots) (enc := tn) (fun i ρ => ∃ x3 x4 x5 x6 x7 x8, ρ = [some (.dat (ltn lots)), some (.dat (dn many)), some (.dat (ln (lots.take i).flatten)), x3, x4, x5, x6, x7, x8]) rfl
    (iv_list (e_var 0 rfl)) (tg_one (i := 3) c__law_rid.nd rfl (Or.inr rfl)) (Nat.le_of_ble_eq_true rfl) (fun _ _ => trivial) PassesOwn.never ⟨none, none, none, none, none, none, rfl⟩ ?_ ?_
  · rintro i x ρ' hx ⟨x3, x4, x5, x6, x7, x8, rfl⟩
    have hxl := h3 x (List.mem_of_getElem? hx)
    have hi := hfl i
    have e : (lots.take (i + 1)).flatten = (lots.take i).flatten ++ x := by
      rw [List.take_add_one, hx]; simp
    refine s_setV 2 (v_is (v_cat (e_var 2 rfl) (v_lstO (o_list1 B.list (e_var 3 rfl) (.inr rfl)) rfl) ?_) ?_) (s_nil ⟨_, _, _, _, _, _, rfl⟩) c__law_rid.nd
    · rw [List.length_map, List.length_map]; omega
    · rw [e]; unfold ln; rw [List.map_append]
  · rintro ρ' ⟨x3, x4, x5, x6, x7, x8, rfl⟩
    rw [List.take_length]
    have hev : (every lots many).length ≤ 200 := by
      unfold every
      rw [(srtT_perm _).length_eq, List.length_append, List.length_map]
      have := List.length_filter_le (fun k => !decide (k ∈ lots.flatten)) (List.range many)
      rw [List.length_range] at this
      omega
    have hm7 : (List.range many).length ≤ 100000 := by rw [List.length_range]; omega
    have hfr := List.length_filter_le (fun k => !decide (k ∈ lots.flatten)) (List.range many)
    rw [List.length_range] at hfr
    refine s_setV 4 (d := ltn (every lots many)) (v_lstO (o_sortedT (l := lots ++ ((List.range many).filter fun k => !decide (k ∈ lots.flatten)).map fun k => [k]) hr.units B.sorted (v_is (v_cat (e_var 0 rfl) (v_lst (o_flt1 5 c__law_rid (iv_range1 (e_var 1 rfl) (by omega) B.range) hm7 (p := fun k => !decide (k ∈ lots.flatten)) (f := fun k => tn [k])
      (fun k hk _ _ _ _ _ => ts_one (t_notIn (e_var 5 rfl) (e_var 2 rfl) (.inr rfl))) (fun k hk q _ _ _ _ _ => v_tup (a_dv (e_var 5 rfl) a_nil))) rfl) ?_) ?_) (every_ne fun l hl => (h3 l hl).1) ?_) rfl) ?_ c__law_rid.nd
    · rw [List.length_map, List.length_map]; omega
    · show PyData.list _ = PyData.list _
      rw [List.map_append, List.map_map]; rfl
    · rw [List.length_append, List.length_map]; omega
    have hevl : ∀ l ∈ every lots many, l ≠ [] ∧ l.length ≤ 100 := fun l hl => by
      unfold every at hl
      rw [(srtT_perm _).mem_iff] at hl
      rcases List.mem_append.mp hl with q | q
      · exact h3 l q
      · obtain ⟨k, _, rfl⟩ := List.mem_map.mp q
        simp
    have hrid : rid lots many = (every lots many).foldl (ridStep (every lots many)) [] := rfl
    rw [hrid]
    generalize every lots many = ev at hev hevl ⊢
    refine s_own 6 o_nil (fun ds q => ?_) c__law_rid.nd
    subst q
    refine s_for (xs := ev) (enc := tn) (fun i ρ => ∃ x3 x5 x7 x8, ρ = [some (.dat (ltn lots)), some (.dat (dn many)), some (.dat (ln lots.flatten)), x3, some (.dat (ltn ev)), x5, some (.own (((ev.take i).foldl (ridStep ev) []).map tn)), x7, x8]) rfl
      (iv_list (e_var 4 rfl)) (tg_one (i := 3) c__law_rid.nd rfl (Or.inr rfl)) (Nat.le_of_ble_eq_true rfl) (fun _ _ => trivial) PassesOwn.never ⟨_, _, _, _, rfl⟩ ?_ ?_
    · rintro i x ρ' hx ⟨x3, x5, x7, x8, rfl⟩
      have hxl := hevl x (List.mem_of_getElem? hx)
      rw [take_foldl hx]
      have hacc := ridStep_len ev (ev.take i) []
      rw [List.length_take] at hacc
      generalize (ev.take i).foldl (ridStep ev) [] = acc at hacc ⊢
      have hcx : x.length ≤ 1000 := by omega
      refine s_setLc 7 (es := (wider ev x).map tn) (lc_is (o_flt1 8 c__law_rid (xs := ev) (enc := tn) (iv_list (e_var 4 rfl)) (by omega) (p := fun e => decide (x.length < e.length) && decide (common x e = x)) (f := tn)
        (fun e he _ _ _ _ _ => ts_one (t_is (t_and (t_gt (v_len B.len (e_var 8 rfl) (.inr rfl) (List.length_map _)) (v_len B.len (e_var 3 rfl) (.inr rfl) (List.length_map _))) (fun _ => t_eqE (enc := tn) (x := common x e) (y := x) hr.units pl_tn (by decide) (fun _ _ => tn_inj) (e_cal C (hr.mono (by decide)) (Nat.le_refl _) (a_dv (e_var 3 rfl) (a_dv (e_var 8 rfl) a_nil)) (fun ds q => ⟨⟨x, e⟩, q, hcx, rfl⟩)) (e_var 3 rfl))) ?_)) (fun e he q _ _ _ _ _ => e_var 8 rfl)) rfl) ?_
      · congr 1
        exact decide_eq_decide.mpr (by omega)
      refine s_if (Q := fun k => k = (decide (wider ev x = []) && !decide (x ∈ acc))) (P1 := fun ρ => ∃ x3 x5 x7 x8, ρ = [some (.dat (ltn lots)), some (.dat (dn many)), some (.dat (ln lots.flatten)), x3, some (.dat (ltn ev)), x5, some (.own ((ridStep ev acc x).map tn)), x7, x8])
        (t_and (t_is (t_eqE (enc := ltn) (x := wider ev x) (y := []) hr.units pl_ltn (by decide) (fun _ _ => ltn_inj) (e_var 7 rfl) (DO.dv o_nil)) (by congr)) (fun _ => t_thaw 6 rfl (t_is (t_notInX (enc := tn) (x := x) (l := acc) hu pl_tn (by decide) (fun _ _ => tn_inj) (e_var 3 rfl) (e_var 6 rfl) (.inl rfl)) (by congr)))) ?_ ?_ (fun ρ' z => s_nil z)
      · intro q
        have q' : wider ev x = [] ∧ x ∉ acc := by simpa using q.symm
        unfold ridStep
        rw [if_pos q', List.map_append]
        refine s_append 6 rfl (e_var 3 rfl) (by rw [List.length_map]; simp at hacc; omega) (fun d q2 => ?_)
        subst q2
        exact s_nil ⟨_, _, _, _, rfl⟩
      · intro q
        have q' : ¬ (wider ev x = [] ∧ x ∉ acc) := fun z => by
          have : (decide (wider ev x = []) && !decide (x ∈ acc)) = true := by simpa using z
          rw [this] at q; cases q
        unfold ridStep
        rw [if_neg q']
        exact s_nil ⟨_, _, _, _, rfl⟩
    · rintro ρ' ⟨x3, x5, x7, x8, rfl⟩
      rw [List.take_length]
      exact s_freeze 6 rfl (s_ret (v_tupL B.tuple (e_var 6 rfl)))
theorem getD_get {l : List Nat} {i : Nat} (h : i < l.length) : l[i]? = some (l.getD i 0) := by
  rw [List.getD_eq_getElem?_getD, List.getElem?_eq_getElem h]; rfl
theorem idx_val {lot cell : List Nat} {k : Nat} (hl : cell.length = lot.length) (hk : k ∈ lot) : cell[lot.idxOf k]? = some (valAt lot cell k) := by
  have h : lot.idxOf k < cell.length := by rw [hl]; exact List.idxOf_lt_length_iff.mpr hk
  exact getD_get h
theorem cap_le (ring : List Nat) (v : Nat) : ((capR ring v : Nat) : Int) = if v ∈ ring then 1 else 0 := by
  unfold capR
  split <;> rfl
theorem p__law_ring_row (D : DefAt K mg "_law_ring_row" s__law_ring_row) (B : Nb mg) (C : Cal P w K mg base "_law_sections" 2 ["_law_world", "_law_spot"] (spD T_sections)) : Cal P w K mg base "_law_ring_row" 3 ["_law_world", "_law_spot", "_law_ring"] (spD T_ring_row) := by
  refine fn_D D c__law_ring_row (fun ds R ⟨i, h, _⟩ => by rw [h]; rfl) (fun _ _ _ _ _ _ us hl => match us, hl with | [_, _, _], _ => rfl) fun f cdv A outer s H E G0 H0 hr ds R ⟨⟨wo, sp, ring⟩, h1, ⟨h3, hi, hr1, hr2⟩, h2⟩ => ?_
  subst h1 h2
  dsimp only at h3 hi hr1 hr2 ⊢
  have hu := hr.units65
  have hm := Wd.Ok.lotM hi
  have l6 := h3.lotLen hm.1
  have hcnt := h3.secs_count hm.1 (szs wo.1 (lotAt wo sp)).length
  rw [List.take_length] at hcnt
  refine s_par 3 4 (.own fun ds => ds = []) (.dat fun d => d = dn (ring.length - 1)) o_nil (v_is (v_sub (v_len B.len (e_var 2 rfl) (.inl rfl) (List.length_map _)) e_int) ?_) (by decide) ⟨Nat.le_of_ble_eq_true rfl, Nat.le_of_ble_eq_true rfl⟩ (fun s t q1 q2 => ?_) rfl c__law_ring_row.nd
  · show PyData.int _ = PyData.int _
    congr 1
    omega
  obtain ⟨d1, rfl, rfl⟩ := q1
  obtain ⟨d2, rfl, rfl⟩ := q2
  refine s_for (xs := secs wo.1 (lotAt wo sp)) (enc := tn) (fun i ρ => ∃ x5 x6 x7 x8 x9 x10 x11, ρ = [some (.dat (wd wo)), some (.dat (dn sp)), some (.dat (ln ring)), some (.own ((((secs wo.1 (lotAt wo sp)).take i).filter (ringFits (lotAt wo sp) ring)).map tn)), some (.dat (dn (ring.length - 1))), x5, x6, x7, x8, x9, x10, x11]) rfl
    (iv_list (e_cal C hr (by decide) (a_dv (e_var 0 rfl) (a_dv (e_var 1 rfl) a_nil)) (fun ds q => ⟨⟨wo, sp⟩, q, ⟨h3, hi⟩, rfl⟩))) (tg_one (i := 5) c__law_ring_row.nd rfl (Or.inr rfl)) (Nat.le_of_ble_eq_true rfl) (fun _ _ => trivial) PassesOwn.never ⟨none, none, none, none, none, none, none, rfl⟩ ?_ ?_
  · rintro i c ρ' hc ⟨x5, x6, x7, x8, x9, x10, x11, rfl⟩
    have hcm : c ∈ secs wo.1 (lotAt wo sp) := List.mem_of_getElem? hc
    have hcl : c.length = (lotAt wo sp).length := by
      have := cells_length hcm
      rw [this]; unfold szs; rw [List.length_map]
    rw [take_filter hc]
    have hf := List.length_filter_le (ringFits (lotAt wo sp) ring) ((secs wo.1 (lotAt wo sp)).take i)
    rw [List.length_take] at hf
    have hsl : (secs wo.1 (lotAt wo sp)).length ≤ 64 := hcnt
    generalize ((secs wo.1 (lotAt wo sp)).take i).filter (ringFits (lotAt wo sp) ring) = acc at hf ⊢
    have hlow : ((List.range c.length).filter fun k => decide (capR ring ((lotAt wo sp).getD k 0) < c.getD k 0)).length ≤ 1000 := Nat.le_trans (List.length_filter_le _ _) (by rw [List.length_range]; omega)
    refine s_setV 6 (d := .bool (lowOk (lotAt wo sp) ring c)) (v_is (v_eqE (enc := ln) (x := (List.range c.length).filter fun k => decide (capR ring ((lotAt wo sp).getD k 0) < c.getD k 0)) (y := []) hr.units pl_ln (by decide) (fun _ _ => ln_inj) (v_lst (o_flt1 7 c__law_ring_row (xs := List.range c.length) (enc := dn) (iv_range1 (v_len B.len (e_var 5 rfl) (.inr rfl) (List.length_map _)) (by omega) B.range) (by rw [List.length_range]; omega) (p := fun k => decide (capR ring ((lotAt wo sp).getD k 0) < c.getD k 0)) (f := dn)
      (fun k hk _ _ _ _ _ => ts_one (t_is (t_gt (i := (c.getD k 0 : Nat)) (j := (capR ring ((lotAt wo sp).getD k 0) : Nat)) (v_at (l := c) (enc := dn) (e_var 5 rfl) (e_var 7 rfl) (getD_get (List.mem_range.mp hk)))
        (e_if (Q1 := fun q => q = decide ((lotAt wo sp).getD k 0 ∈ ring)) (t_in (v_at (l := lotAt wo sp) (enc := dn) (v_at (l := wo.2) (enc := tn) (v_ixT (d := ttn wo.2) (i := 1) (e_var 0 rfl) e_int rfl) (e_var 1 rfl) hm.2) (e_var 7 rfl) (getD_get (by rw [← hcl]; exact List.mem_range.mp hk))) (e_var 2 rfl) (.inr rfl))
          (fun q => v_is e_int (by rw [cap_le, if_pos (of_decide_eq_true q.symm)])) (fun q => v_is e_int (by rw [cap_le, if_neg (of_decide_eq_false q.symm)])))) (by exact decide_eq_decide.mpr Int.ofNat_lt))) (fun k hk q _ _ _ _ _ => e_var 7 rfl)) rfl) (DO.dv o_nil)) (by unfold lowOk; congr)) ?_ c__law_ring_row.nd
    refine s_setLc 8 (es := (innerOf (lotAt wo sp) ring).map dn) (lc_is (o_flt1 7 c__law_ring_row (xs := lotAt wo sp) (enc := dn) (iv_tup (v_at (l := wo.2) (enc := tn) (v_ixT (d := ttn wo.2) (i := 1) (e_var 0 rfl) e_int rfl) (e_var 1 rfl) hm.2)) (by omega) (p := fun k => decide (k ∈ ring)) (f := dn)
      (fun k hk _ _ _ _ _ => ts_one (t_in (e_var 7 rfl) (e_var 2 rfl) (.inr rfl))) (fun k hk q _ _ _ _ _ => e_var 7 rfl)) rfl) ?_
    have hil : (innerOf (lotAt wo sp) ring).length ≤ 6 := Nat.le_trans (List.length_filter_le _ _) l6
    have him : ∀ k ∈ innerOf (lotAt wo sp) ring, k ∈ lotAt wo sp ∧ k ∈ ring := fun k hk => by
      obtain ⟨h5, h6⟩ := List.mem_filter.mp hk
      exact ⟨h5, by simpa using h6⟩
    have hdef : ringFits (lotAt wo sp) ring c = match innerOf (lotAt wo sp) ring with
      | [a, b] => lowOk (lotAt wo sp) ring c && ((!decide (valAt (lotAt wo sp) c a = valAt (lotAt wo sp) c b)) == tiedB ring a b)
      | _ => lowOk (lotAt wo sp) ring c := rfl
    generalize ringFits (lotAt wo sp) ring c = good at hdef ⊢
    generalize lowOk (lotAt wo sp) ring c = low at hdef ⊢
    refine s_if (Q := fun k => k = (decide ((innerOf (lotAt wo sp) ring).length = 2) && low)) (P1 := fun ρ => ∃ x7 x8 x9 x10 x11, ρ = [some (.dat (wd wo)), some (.dat (dn sp)), some (.dat (ln ring)), some (.own (acc.map tn)), some (.dat (dn (ring.length - 1))), some (.dat (tn c)), some (.dat (.bool good)), x7, x8, x9, x10, x11])
      (t_and (t_eqE (enc := dn) (x := (innerOf (lotAt wo sp) ring).length) (y := 2) hr.units pl_dn (by decide) (fun _ _ => dn_inj) (v_len B.len (e_var 8 rfl) (.inl rfl) (List.length_map _)) e_int) (fun _ => t_name (e_var 6 rfl))) ?_ ?_ ?_
    · intro q
      obtain ⟨q1, q2⟩ : (innerOf (lotAt wo sp) ring).length = 2 ∧ low = true := by simpa using q.symm
      obtain ⟨a, b, hab⟩ : ∃ a b, innerOf (lotAt wo sp) ring = [a, b] := by
        match innerOf (lotAt wo sp) ring, q1 with
        | [a, b], _ => exact ⟨a, b, rfl⟩
      rw [hab] at hdef him ⊢
      have ha := him a (by simp)
      have hb := him b (by simp)
      simp only at hdef
      rw [q2, Bool.true_and] at hdef
      refine s_setV 9 (d := .bool (tiedB ring a b)) (v_is (v_eqE (enc := ln) (x := srt [ring.idxOf a, ring.idxOf b]) (y := [0, ring.length - 1]) hr.units pl_ln (by decide) (fun _ _ => ln_inj)
        (v_lstO (o_callB cr_sorted B.sorted (a_dv (d := ln [ring.idxOf a, ring.idxOf b]) (DO.dv (o_lst (Q := fun ds => ds = [dn (ring.idxOf a), dn (ring.idxOf b)]) (a_dv (e_lstIx (e_var 2 rfl) (v_ixL (i := 0) (d := dn a) (e_var 8 rfl) e_int rfl) ha.2) (a_dv (e_lstIx (e_var 2 rfl) (v_ixL (i := 1) (d := dn b) (e_var 8 rfl) e_int rfl) hb.2) a_nil)) (fun ds q => by rw [q]; exact Nat.le_of_ble_eq_true rfl))) a_nil) (fun ds q => q ▸ d_sorted (ns := [ring.idxOf a, ring.idxOf b]) (by simp))) rfl)
        (DO.dv (o_lst (Q := fun ds => ds = [dn 0, dn (ring.length - 1)]) (a_dv e_int (a_dv (e_var 4 rfl) a_nil)) (fun ds q => by rw [q]; exact Nat.le_of_ble_eq_true rfl)))) (by unfold tiedB; congr)) ?_ c__law_ring_row.nd
      refine s_unl 10 11 (Q := fun x y => x = dn (valAt (lotAt wo sp) c a) ∧ y = dn (valAt (lotAt wo sp) c b)) (o_imp (DC.o (o_map1 7 c__law_ring_row (xs := [a, b]) (enc := dn) (iv_list (e_var 8 rfl)) (by simp) (f := fun k => dn (valAt (lotAt wo sp) c k))
        (fun k hk _ _ _ _ _ => v_at (l := c) (enc := dn) (e_var 5 rfl) (e_tupIx (v_at (l := wo.2) (enc := tn) (v_ixT (d := ttn wo.2) (i := 1) (e_var 0 rfl) e_int rfl) (e_var 1 rfl) hm.2) (e_var 7 rfl) (him k hk).1) (idx_val hcl (him k hk).1)))) (fun ds q => ⟨_, _, q, rfl, rfl⟩)) ⟨Nat.le_of_ble_eq_true rfl, Nat.le_of_ble_eq_true rfl⟩ (fun x y q => ?_) rfl c__law_ring_row.nd
      obtain ⟨rfl, rfl⟩ := q
      refine s_setV 6 (d := .bool good) (v_is (v_eqD (d1 := .bool (!decide (valAt (lotAt wo sp) c a = valAt (lotAt wo sp) c b))) (d2 := .bool (tiedB ring a b)) hr.units (v_neE (enc := dn) hr.units pl_dn (by decide) (fun _ _ => dn_inj) (e_var 10 rfl) (e_var 11 rfl)) (e_var 9 rfl) rfl rfl) ?_) (s_nil ⟨_, _, _, _, _, rfl⟩) c__law_ring_row.nd
      rw [hdef]
      simp [PyData.eqv]
    · intro q
      have hg : good = low := by
        rw [hdef]
        match h : innerOf (lotAt wo sp) ring with
        | [a, b] =>
          rw [h] at q
          have : low = false := by
            cases low
            · rfl
            · simp at q
          simp only
          rw [this]; rfl
        | [] => rfl
        | [_] => rfl
        | _ :: _ :: _ :: _ => rfl
      subst hg
      exact s_nil ⟨_, _, _, _, _, rfl⟩
    · rintro ρ' ⟨x7, x8, x9, x10, x11, rfl⟩
      refine s_if (Q := fun k => k = good) (P1 := fun ρ => ∃ x5 x6 x7 x8 x9 x10 x11, ρ = [some (.dat (wd wo)), some (.dat (dn sp)), some (.dat (ln ring)), some (.own ((acc ++ (if good = true then [c] else [])).map tn)), some (.dat (dn (ring.length - 1))), x5, x6, x7, x8, x9, x10, x11])
        (t_name (e_var 6 rfl)) ?_ ?_ (fun ρ' z => s_nil z)
      · intro q
        rw [if_pos q.symm, List.map_append]
        refine s_append 3 rfl (e_var 5 rfl) (by rw [List.length_map]; omega) (fun d q2 => ?_)
        subst q2
        exact s_nil ⟨_, _, _, _, _, _, _, rfl⟩
      · intro q
        rw [if_neg (by rw [← q]; decide), List.append_nil]
        exact s_nil ⟨_, _, _, _, _, _, _, rfl⟩
  · rintro ρ' ⟨x5, x6, x7, x8, x9, x10, x11, rfl⟩
    rw [List.take_length]
    exact s_freeze 3 rfl (s_ret (v_tupL B.tuple (e_var 3 rfl)))
end
end BT

/-! ## text L5 -/
set_option Elab.async false
set_option linter.all false
set_option maxRecDepth 100000
set_option maxHeartbeats 1000000
/-! L5: rows of a star. -/
namespace BT
open PySem PySem.Spec PyProof.Rows L2 DL
section
variable {P : Program} {w : World} {K : PySem.W.Frag} {mg : Str → Option Value} {base : Heap}
theorem sum_cast (l : List Nat) (f : Nat → Nat) : (l.map fun k => ((f k : Nat) : Int)).sum = (((l.map f).sum : Nat) : Int) := by
  induction l with
  | nil => rfl
  | cons x l ih => rw [List.map_cons, List.map_cons, List.sum_cons, List.sum_cons, ih]; omega
theorem p__law_star_row (D : DefAt K mg "_law_star_row" s__law_star_row) (B : Nb mg) (C : Cal P w K mg base "_law_sections" 2 ["_law_world", "_law_spot"] (spD T_sections)) : Cal P w K mg base "_law_star_row" 3 ["_law_world", "_law_spot", "_law_corner"] (spD T_star_row) := by
  refine fn_D D c__law_star_row (fun ds R ⟨i, h, _⟩ => by rw [h]; rfl) (fun _ _ _ _ _ _ us hl => match us, hl with | [_, _, _], _ => rfl) fun f cdv A outer s H E G0 H0 hr ds R ⟨⟨wo, sp, ring⟩, h1, ⟨h3, hi, hr1, hr2⟩, h2⟩ => ?_
  subst h1 h2
  dsimp only at h3 hi hr1 hr2 ⊢
  have hu := hr.units65
  have hm := Wd.Ok.lotM hi
  have l6 := h3.lotLen hm.1
  have hcnt := h3.secs_count hm.1 (szs wo.1 (lotAt wo sp)).length
  rw [List.take_length] at hcnt
  refine s_own 3 o_nil (fun ds q => ?_) c__law_star_row.nd
  subst q
  refine s_for (xs := secs wo.1 (lotAt wo sp)) (enc := tn) (fun i ρ => ∃ x4 x5 x6 x7 x8, ρ = [some (.dat (wd wo)), some (.dat (dn sp)), some (.dat (ln ring)), some (.own ((((secs wo.1 (lotAt wo sp)).take i).filter (starFits (lotAt wo sp) ring)).map tn)), x4, x5, x6, x7, x8]) rfl
    (iv_list (e_cal C hr (by decide) (a_dv (e_var 0 rfl) (a_dv (e_var 1 rfl) a_nil)) (fun ds q => ⟨⟨wo, sp⟩, q, ⟨h3, hi⟩, rfl⟩))) (tg_one (i := 4) c__law_star_row.nd rfl (Or.inr rfl)) (Nat.le_of_ble_eq_true rfl) (fun _ _ => trivial) PassesOwn.never ⟨none, none, none, none, none, rfl⟩ ?_ ?_
  · rintro i c ρ' hc ⟨x4, x5, x6, x7, x8, rfl⟩
    have hcm : c ∈ secs wo.1 (lotAt wo sp) := List.mem_of_getElem? hc
    have hcl : c.length = (lotAt wo sp).length := by
      have := cells_length hcm
      rw [this]; unfold szs; rw [List.length_map]
    rw [take_filter hc]
    have hf := List.length_filter_le (starFits (lotAt wo sp) ring) ((secs wo.1 (lotAt wo sp)).take i)
    rw [List.length_take] at hf
    have hsl : (secs wo.1 (lotAt wo sp)).length ≤ 64 := hcnt
    generalize ((secs wo.1 (lotAt wo sp)).take i).filter (starFits (lotAt wo sp) ring) = acc at hf ⊢
    have hil : (innerOf (lotAt wo sp) ring).length ≤ 6 := Nat.le_trans (List.length_filter_le _ _) l6
    have him : ∀ k ∈ innerOf (lotAt wo sp) ring, k ∈ lotAt wo sp ∧ k ∈ ring := fun k hk => by
      obtain ⟨h5, h6⟩ := List.mem_filter.mp hk
      exact ⟨h5, by simpa using h6⟩
    refine s_setLc 5 (es := (innerOf (lotAt wo sp) ring).map dn) (lc_is (o_flt1 6 c__law_star_row (xs := lotAt wo sp) (enc := dn) (iv_tup (v_at (l := wo.2) (enc := tn) (v_ixT (d := ttn wo.2) (i := 1) (e_var 0 rfl) e_int rfl) (e_var 1 rfl) hm.2)) (by omega) (p := fun k => decide (k ∈ ring)) (f := dn)
      (fun k hk _ _ _ _ _ => ts_one (t_in (e_var 6 rfl) (e_var 2 rfl) (.inr rfl))) (fun k hk q _ _ _ _ _ => e_var 6 rfl)) rfl) ?_
    refine s_setV 7 (d := .bool (lowOk (lotAt wo sp) ring c)) (v_is (v_eqE (enc := ln) (x := (List.range c.length).filter fun k => decide (capR ring ((lotAt wo sp).getD k 0) < c.getD k 0)) (y := []) hr.units pl_ln (by decide) (fun _ _ => ln_inj) (v_lst (o_flt1 6 c__law_star_row (xs := List.range c.length) (enc := dn) (iv_range1 (v_len B.len (e_var 4 rfl) (.inr rfl) (List.length_map _)) (by omega) B.range) (by rw [List.length_range]; omega) (p := fun k => decide (capR ring ((lotAt wo sp).getD k 0) < c.getD k 0)) (f := dn)
      (fun k hk _ _ _ _ _ => ts_one (t_is (t_gt (i := (c.getD k 0 : Nat)) (j := (capR ring ((lotAt wo sp).getD k 0) : Nat)) (v_at (l := c) (enc := dn) (e_var 4 rfl) (e_var 6 rfl) (getD_get (List.mem_range.mp hk)))
        (e_if (Q1 := fun q => q = decide ((lotAt wo sp).getD k 0 ∈ ring)) (t_in (v_at (l := lotAt wo sp) (enc := dn) (v_at (l := wo.2) (enc := tn) (v_ixT (d := ttn wo.2) (i := 1) (e_var 0 rfl) e_int rfl) (e_var 1 rfl) hm.2) (e_var 6 rfl) (getD_get (by rw [← hcl]; exact List.mem_range.mp hk))) (e_var 2 rfl) (.inr rfl))
          (fun q => v_is e_int (by rw [cap_le, if_pos (of_decide_eq_true q.symm)])) (fun q => v_is e_int (by rw [cap_le, if_neg (of_decide_eq_false q.symm)])))) (by exact decide_eq_decide.mpr Int.ofNat_lt))) (fun k hk q _ _ _ _ _ => e_var 6 rfl)) rfl) (DO.dv o_nil)) (by unfold lowOk; congr)) ?_ c__law_star_row.nd
    refine s_setV 8 (d := dn (onesOf (lotAt wo sp) ring c)) (v_is (v_sum (ns := (innerOf (lotAt wo sp) ring).map fun k => ((valAt (lotAt wo sp) c k : Nat) : Int)) B.sum rfl (v_lst (o_map1 6 c__law_star_row (xs := innerOf (lotAt wo sp) ring) (enc := dn) (iv_list (e_var 5 rfl)) (by omega) (f := fun k => dn (valAt (lotAt wo sp) c k))
        (fun k hk _ _ _ _ _ => v_at (l := c) (enc := dn) (e_var 4 rfl) (e_tupIx (v_at (l := wo.2) (enc := tn) (v_ixT (d := ttn wo.2) (i := 1) (e_var 0 rfl) e_int rfl) (e_var 1 rfl) hm.2) (e_var 6 rfl) (him k hk).1) (idx_val hcl (him k hk).1))) (by rw [List.map_map]; rfl))) (by rw [sum_cast]; rfl)) ?_ c__law_star_row.nd
    have hdef : starFits (lotAt wo sp) ring c = (lowOk (lotAt wo sp) ring c && (decide (onesOf (lotAt wo sp) ring c = 1) || (decide (onesOf (lotAt wo sp) ring c = 0) && decide ((innerOf (lotAt wo sp) ring).length < ring.length - 1)))) := rfl
    generalize starFits (lotAt wo sp) ring c = good at hdef ⊢
    refine s_if (Q := fun k => k = good) (P1 := fun ρ => ∃ x4 x5 x6 x7 x8, ρ = [some (.dat (wd wo)), some (.dat (dn sp)), some (.dat (ln ring)), some (.own ((acc ++ (if good = true then [c] else [])).map tn)), x4, x5, x6, x7, x8])
      (t_is (t_and (t_name (e_var 7 rfl)) (fun _ => t_or (t_eqE (enc := dn) (x := onesOf (lotAt wo sp) ring c) (y := 1) hr.units pl_dn (by decide) (fun _ _ => dn_inj) (e_var 8 rfl) e_int)
        (fun _ => t_and (t_eqE (enc := dn) (x := onesOf (lotAt wo sp) ring c) (y := 0) hr.units pl_dn (by decide) (fun _ _ => dn_inj) (e_var 8 rfl) e_int) (fun _ => t_lt (v_len B.len (e_var 5 rfl) (.inl rfl) (List.length_map _)) (v_sub (v_len B.len (e_var 2 rfl) (.inl rfl) (List.length_map _)) e_int))))) ?_) ?_ ?_ (fun ρ' z => s_nil z)
    · rw [hdef]
      congr 3
      exact decide_eq_decide.mpr (by omega)
    · intro q
      rw [if_pos q.symm, List.map_append]
      refine s_append 3 rfl (e_var 4 rfl) (by rw [List.length_map]; omega) (fun d q2 => ?_)
      subst q2
      exact s_nil ⟨_, _, _, _, _, rfl⟩
    · intro q
      rw [if_neg (by rw [← q]; decide), List.append_nil]
      exact s_nil ⟨_, _, _, _, _, rfl⟩
  · rintro ρ' ⟨x4, x5, x6, x7, x8, rfl⟩
    rw [List.take_length]
    exact s_freeze 3 rfl (s_ret (v_tupL B.tuple (e_var 3 rfl)))
end
end BT

/-! ## text L6 -/
set_option Elab.async false
set_option linter.all false
set_option maxRecDepth 100000
set_option maxHeartbeats 1000000
/-! L6: the bag of draws. -/
namespace DL
open PySem PySem.Spec PyProof.Rows L2
def anyI (d : PyData) : Prop := ∃ i : Int, d = .int i
section
variable {X : Cx} {c : DL.Ctx} {ρ : Rho} {pos : Pos} {e a b : Expr} {P : Rho → Prop} {R : PyData → Prop} {rest : List Stmt}
theorem x_of {i : Int} (h : DV X c e ρ (.int i)) : DE X c e ρ anyI := h.imp fun d q => ⟨i, q⟩
theorem x_add (ha : DE X c a ρ anyI) (hb : DE X c b ρ anyI) : DE X c (.BinOp a .Add b pos) ρ anyI := e_op op_add ha hb fun d1 d2 ⟨i, q1⟩ ⟨j, q2⟩ => by
  subst q1 q2
  intro b x y G H Qv e1 a1 a2 p
  exact d_intop b x y G H Qv e1 a1 a2 fun v H' d G' q g a => p v H' d G' ⟨_, q⟩ g a
theorem x_mul {j : Int} (ha : DE X c a ρ anyI) (hb : DV X c b ρ (.int j)) (hj : -(2 ^ 64) < j ∧ j < 2 ^ 64) : DE X c (.BinOp a .Mult b pos) ρ anyI := e_op op_mul ha hb fun d1 d2 ⟨i, q1⟩ q2 => by
  subst q1 q2
  intro b x y G H Qv e1 a1 a2 p
  exact d_intopC (.inr hj) b x y G H Qv e1 a1 a2 fun v H' d G' q g a => p v H' d G' ⟨_, q⟩ g a
theorem x_div {j : Int} (ha : DE X c a ρ anyI) (hb : DV X c b ρ (.int j)) (hj : 0 < j ∧ j < 1073741824) : DE X c (.BinOp a .FloorDiv b pos) ρ anyI := e_op op_fdiv ha hb fun d1 d2 ⟨i, q1⟩ q2 => by
  subst q1 q2
  intro b x y G H Qv e1 a1 a2 p
  exact d_intopC hj b x y G H Qv e1 a1 a2 fun v H' d G' q g a => p v H' d G' ⟨_, q⟩ g a
theorem x_mod {j : Int} (ha : DE X c a ρ anyI) (hb : DV X c b ρ (.int j)) (hj : 0 < j) : DE X c (.BinOp a .Mod b pos) ρ (fun d => ∃ i : Int, d = .int i ∧ 0 ≤ i ∧ i < j) := e_op op_mod ha hb fun d1 d2 ⟨i, q1⟩ q2 => by
  subst q1 q2
  intro b x y G H Qv e1 a1 a2 p
  exact (show OpD _ (.int i) (.int j) (fun d => d = .int (i % j)) from d_intopC hj) b x y G H Qv e1 a1 a2 fun v H' d G' q g a => p v H' d G' ⟨_, q, Int.emod_nonneg _ (by omega), Int.emod_lt_of_pos _ hj⟩ g a
theorem x_int {p : Pos} (hm : X.mg "int" = none) (h : DE X c e ρ anyI) (hg : Gl X "int" := by rfl) (he : starEach [e] X.env = (false, eval e X.env) :: starEach [] X.env := by rfl) (hpl : (backTo pos (starEach [] X.env)).any (·.1) = false := by rfl) : DE X c (.Call (.Name "int" p) [e] [] pos) ρ anyI :=
  e_callTy call_int1 hm (a_one h he) (fun ds ⟨d, q1, ⟨i, q2⟩⟩ => by
    subst q1 q2
    intro b vs G H Qv e1 a1 p
    exact d_int1 b vs G H Qv e1 a1 fun v H' d G' q g a => p v H' d G' ⟨_, q⟩ g a) (by decide +kernel) hg (by decide) (by decide) he hpl
/-- bag[k], k one of the three -/
theorem e_bag (i k : Nat) {y : Str} {py pk : Pos} {kd : Nat} (hk : k < 3) (hρ : ρ[i]? = some (some .bag)) (hN : X.N[i]? = some y := by rfl) (hv : Vis X.env.scope y := by first | exact Or.inl rfl | exact Or.inr (Or.inl rfl) | exact Or.inr (Or.inr rfl))
    (hd : (y == ("__debug__" : Str)) = false := by decide) (hcd : (y == ("__classdict__" : Str)) = false := by decide) : DE X c (.Subscript (.Name y py) (.Constant (.int (k : Nat)) kd pk) pos) ρ anyI := fun σ H G S =>
  tW_of (pe_ix ix_list (pe_var hN hv hd hcd) pe_int (fun _ _ => rfl)) (by
    obtain ⟨v, h1, q, rfl, hq⟩ := S.sl i _ hρ
    obtain ⟨g, s, t, e⟩ := S.bag q hq
    refine ⟨_, h1, ?_⟩
    have : ∃ z : Int, atI [V.int g, V.int s, V.int t] (k : Int) = some (.int z) := by
      match k, hk with
      | 0, _ => exact ⟨g, atI_nat (j := 0) rfl⟩
      | 1, _ => exact ⟨s, atI_nat (j := 1) rfl⟩
      | 2, _ => exact ⟨t, atI_nat (j := 2) rfl⟩
    obtain ⟨z, hz⟩ := this
    exact ⟨q, _, _, _, rfl, rfl, SqL.of e, hz, .int z, G, ⟨z, rfl⟩, Grow.refl S.gr.e, .int z⟩)
theorem St.bagset {G H : Hp} {σ : L2.St} (S : St c G σ H ρ) {q : Addr} (hq : c.b = some q) (g s t : Int) : St c G σ (upd H q (.lst [.int g, .int s, .int t])) ρ where
  len := S.len
  gr := ⟨S.gr.g, fun a o e => by
      have : a ≠ q := fun z => by rw [z, S.bagG q hq] at e; cases e
      rw [upd_ne this]; exact S.gr.e a o e, S.gr.f, fun a o n e => by
      have : a ≠ q := fun z => n (by rw [z]; exact hq)
      rw [upd_ne this]; exact S.gr.h a o n e, fun _ a e => by
      rw [hq] at e
      cases e
      exact ⟨g, s, t, upd_same⟩⟩
  bag := fun a e => by
    rw [hq] at e
    cases e
    exact ⟨g, s, t, upd_same⟩
  bag0 := S.bag0
  bagG := S.bagG
  sl := fun i s' h => by
    obtain ⟨v, h1, h2⟩ := S.sl i s' h
    refine ⟨v, h1, ?_⟩
    cases s' with
    | dat d => exact h2
    | own ds =>
      obtain ⟨p, vs, rfl, k1, k2, k3, k4, k5⟩ := h2
      exact ⟨p, vs, rfl, by rw [upd_ne (fun z => k4 (by rw [hq, z]))]; exact k1, k2, k3, k4, k5⟩
    | bag => exact h2
    | raw w => exact h2
  ne := S.ne
theorem bag_set {H : Hp} {q : Addr} {k : Nat} {g s t x : Int} (hk : k < 3) (e : H q = some (.lst [.int g, .int s, .int t])) : ∃ g' s' t' : Int, ([V.int g, V.int s, V.int t].set k (.int x)) = [V.int g', V.int s', V.int t'] := by
  match k, hk with
  | 0, _ => exact ⟨x, s, t, rfl⟩
  | 1, _ => exact ⟨g, x, t, rfl⟩
  | 2, _ => exact ⟨g, s, x, rfl⟩
theorem ixN3 {k : Nat} (hk : k < 3) : ixN 3 (k : Int) = some k := by
  match k, hk with
  | 0, _ => decide
  | 1, _ => decide
  | 2, _ => decide
/-- bag[k] = e -/
theorem s_bagSet (i k : Nat) {y : Str} {ev : Expr} {py pk ps : Pos} {kd : Nat} {Q : PyData → Prop} (hk : k < 3) (hρ : ρ[i]? = some (some .bag)) (h : DE X c ev ρ Q) (hQ : ∀ d, Q d → anyI d) (r : Runs X c rest ρ P R)
    (hN : X.N[i]? = some y := by rfl) (hv : Vis X.env.scope y := by first | exact Or.inl rfl | exact Or.inr (Or.inl rfl) | exact Or.inr (Or.inr rfl))
    (hd : (y == ("__debug__" : Str)) = false := by decide) (hcd : (y == ("__classdict__" : Str)) = false := by decide)
    (hasg : ∀ v, assign (.Subscript (.Name y py) (.Constant (.int (k : Nat)) kd pk) ps) X.env v = (do
      let ov ← holding [v] (eval (.Name y py) X.env)
      let iv ← holding [v, ov] (eval (.Constant (.int (k : Nat)) kd pk) X.env)
      standAt ps
      holding [v, ov, iv] (setItem ov iv v)
      release [v, ov, iv] []) := by intro _; rfl)
    (hs : swapsWithSole [.Subscript (.Name y py) (.Constant (.int (k : Nat)) kd pk) ps] ev pos.line X.env = pure false := by rfl) (hw : swappedStores [.Subscript (.Name y py) (.Constant (.int (k : Nat)) kd pk) ps] ev X.env = pure none := by rfl) :
    Runs X c (.Assign [.Subscript (.Name y py) (.Constant (.int (k : Nat)) kd pk) ps] ev pos :: rest) ρ P R := fun σ H G S D hn hr => by
  refine tseq (ps_asg peW (pg_sub (pe_var hN hv hd hcd) pe_int set_list hasg) hs hw) ?_
  refine tW_mono (h σ H G S) fun v H1 ⟨d, G1, qd, g1, a1⟩ => ?_
  obtain ⟨x, rfl⟩ := hQ d qd
  cases a1
  have S1 := S.grow g1
  obtain ⟨v, h1, q, rfl, hq⟩ := S1.sl i _ hρ
  obtain ⟨g, s, t, e⟩ := S1.bag q hq
  obtain ⟨g', s', t', e'⟩ := bag_set (x := x) hk e
  refine ⟨_, h1, q, _, _, k, rfl, rfl, e, ixN3 hk, ?_⟩
  rw [e']
  exact r.go (S1.bagset hq g' s' t') g1.g hn hr
/-- bag[0], x = divmod(bag[0], e) -/
theorem s_bagDiv (i j : Nat) {y x : Str} {e2 : Expr} {py pk ps pt px pd py2 pk2 ps2 pc : Pos} {kd kt kd2 : Nat} {m : Int} (hρ : ρ[i]? = some (some .bag)) (h2 : DV X c e2 ρ (.int m)) (hm : 0 < m ∧ m < 1073741824) (hmg : X.mg "divmod" = none)
    (r : ∀ z : Int, 0 ≤ z → z < m → Runs X c rest (ρ.set j (some (.dat (.int z)))) P R) (hc : X.calm = true) (hXN : X.N.Nodup) (hlt : j < c.n := by exact Nat.le_of_ble_eq_true rfl)
    (hN : X.N[i]? = some y := by rfl) (hv : Vis X.env.scope y := by first | exact Or.inl rfl | exact Or.inr (Or.inl rfl) | exact Or.inr (Or.inr rfl))
    (hd : (y == ("__debug__" : Str)) = false := by decide) (hcd : (y == ("__classdict__" : Str)) = false := by decide)
    (hNj : X.N[j]? = some x := by rfl) (hx : Loc X.env.scope x := by first | exact Or.inl rfl | exact Or.inr rfl) (hf : X.fn x = true ∨ X.env.scope.names.lookup x = some .local := by first | exact .inl rfl | exact .inr rfl)
    (hasg : ∀ v, assign (.Subscript (.Name y py) (.Constant (.int (0 : Nat)) kd pk) ps) X.env v = (do
      let ov ← holding [v] (eval (.Name y py) X.env)
      let iv ← holding [v, ov] (eval (.Constant (.int (0 : Nat)) kd pk) X.env)
      standAt ps
      holding [v, ov, iv] (setItem ov iv v)
      release [v, ov, iv] []) := by intro _; rfl)
    (hg : Gl X "divmod" := by rfl) (he : starEach [.Subscript (.Name y py2) (.Constant (.int (0 : Nat)) kd2 pk2) ps2, e2] X.env = (false, eval (.Subscript (.Name y py2) (.Constant (.int (0 : Nat)) kd2 pk2) ps2) X.env) :: starEach [e2] X.env := by rfl) (he2 : starEach [e2] X.env = (false, eval e2 X.env) :: starEach [] X.env := by rfl) (hpl : (backTo pc (starEach [e2] X.env)).any (·.1) = false := by rfl)
    (hn2 : (assignEach [.Subscript (.Name y py) (.Constant (.int (0 : Nat)) kd pk) ps, .Name x px] X.env).length = 2 := by rfl) (hst : (assignEach [.Subscript (.Name y py) (.Constant (.int (0 : Nat)) kd pk) ps, .Name x px] X.env).findIdx? (·.1) = none := by rfl)
    (hs : swapsWithSole [.Tuple [.Subscript (.Name y py) (.Constant (.int (0 : Nat)) kd pk) ps, .Name x px] kt pt] (.Call (.Name "divmod" pd) [.Subscript (.Name y py2) (.Constant (.int (0 : Nat)) kd2 pk2) ps2, e2] [] pc) pos.line X.env = pure false := by rfl)
    (hw : swappedStores [.Tuple [.Subscript (.Name y py) (.Constant (.int (0 : Nat)) kd pk) ps, .Name x px] kt pt] (.Call (.Name "divmod" pd) [.Subscript (.Name y py2) (.Constant (.int (0 : Nat)) kd2 pk2) ps2, e2] [] pc) X.env = pure none := by rfl) :
    Runs X c (.Assign [.Tuple [.Subscript (.Name y py) (.Constant (.int (0 : Nat)) kd pk) ps, .Name x px] kt pt] (.Call (.Name "divmod" pd) [.Subscript (.Name y py2) (.Constant (.int (0 : Nat)) kd2 pk2) ps2, e2] [] pc) pos :: rest) ρ P R := fun σ H G S D hn hr => by
  refine tseq (ps_asg (pe_callB call_divmod hg hmg (by decide +kernel) (pa_cons peW (pa_cons peW pa_nil he2) he) (by decide) (by decide) he hpl) (pg_tup hc (pgs_cons (pg_sub (pe_var hN hv hd hcd) pe_int set_list hasg) (pgs_cons (pg_name hXN hNj hx hf) pgs_nil)) hn2 hst) hs hw) ?_
  refine tW_mono (e_bag i 0 (by decide) hρ hN hv hd hcd σ H G S) fun v0 H1 ⟨d0, G1, ⟨w, q0⟩, g1, a1⟩ => ?_
  subst q0
  cases a1
  refine tW_mono (h2 σ H1 G1 (S.grow g1)) fun v2 H2 ⟨d2, G2, q2, g2, a2⟩ => ?_
  subst q2
  cases a2
  have S2 := (S.grow g1).grow g2
  refine ⟨w, m, rfl, hm, fun p hp => ?_⟩
  have S3 := S2.grow (Grow.hid (o := .tup [.int (w / m), .int (w % m)]) S2.gr.e hp)
  refine ⟨p, _, rfl, .inl (.inl upd_same), rfl, _, _, rfl, ?_⟩
  obtain ⟨v, h1, q, rfl, hq⟩ := S3.sl i _ hρ
  obtain ⟨g, s, t, e⟩ := S3.bag q hq
  refine ⟨_, h1, q, _, _, 0, rfl, rfl, e, ixN3 (k := 0) (by decide), ?_⟩
  have S4 := (S3.bagset hq (w / m) s t)
  refine ⟨_, _, rfl, ?_⟩
  exact ⟨rfl, (r (w % m) (Int.emod_nonneg _ (by omega)) (Int.emod_lt_of_pos _ hm.1)).go (S4.putD (.int _) hlt) (g1.g.trans g2.g) hn hr⟩
end
end DL
namespace BT
open PySem PySem.Spec PyProof.Rows L2 DL
def T_draw : PT := fun ds R => ∃ many : Nat, ds = [dn many] ∧ 0 < many ∧ many < 1000000 ∧ R = fun d => ∃ n : Nat, d = dn n ∧ n < many
section
variable {P : Program} {w : World} {K : PySem.W.Frag} {mg : Str → Option Value} {base : Heap}
theorem p__law_draw (D : DefAt K mg "_law_draw" s__law_draw) (B : Nb mg) : Cal P w K mg base "_law_draw" 1 ["_law_bag_here", "_law_many"] (spB T_draw) := by
  refine fn_B D c__law_draw (fun ds R ⟨i, h, _⟩ => by rw [h]; rfl) (fun _ _ _ _ _ _ us hl => match us, hl with | [_, _], _ => rfl) fun f cdv A outer s H E G0 H0 b hr ds R ⟨many, h1, h3, h4, h2⟩ => ?_
  subst h1 h2
  refine s_ifR (Q := fun _ => True) (t_cmp op_gt (e_bag 0 0 (by decide) rfl) e_int (Q := fun d => ∃ k, d = .bool k) (fun d1 d2 ⟨i, q1⟩ q2 => by
    subst q1 q2
    intro b x y G H Qv e1 a1 a2 p
    exact d_intcmp b x y G H Qv e1 a1 a2 fun v H' d G' q g a => p v H' d G' ⟨_, q⟩ g a) (fun d ⟨k, q⟩ => ⟨k, q, trivial⟩)) (fun _ => ?_) (fun _ => ?_)
  · refine s_bagDiv 0 2 rfl (m := many) (e_var 1 rfl) ⟨by omega, by omega⟩ B.divmod (fun z hz1 hz2 => s_ret (e_imp (e_var 2 rfl) (fun d q => ⟨z.toNat, ?_, by omega⟩))) rfl c__law_draw.nd
    rw [q]
    show PyData.int z = PyData.int _
    congr 1
    omega
  · refine s_bagSet 0 2 (by decide) rfl (x_add (e_bag 0 2 (by decide) rfl) (x_of e_int)) (fun _ q => q) ?_
    refine s_bagSet 0 1 (by decide) rfl (x_mod (x_int B.int (x_add (x_add (x_mul (e_bag 0 1 (by decide) rfl) e_int (by decide)) (x_mul (e_bag 0 2 (by decide) rfl) e_int (by decide))) (x_of e_int))) e_int (by decide)) (fun d ⟨i, q, _⟩ => ⟨i, q⟩) ?_
    refine s_ret (e_imp (x_mod (j := many) (x_int B.int (x_add (x_div (e_bag 0 1 (by decide) rfl) e_int (by decide)) (x_div (e_bag 0 1 (by decide) rfl) e_int (by decide)))) (e_var 1 rfl) (by omega)) (fun d ⟨i, q, h5, h6⟩ => ⟨i.toNat, ?_, by omega⟩))
    rw [q]
    show PyData.int i = PyData.int _
    congr 1
    omega
end
end BT

/-! ## text L7 -/
set_option Elab.async false
set_option linter.all false
set_option maxRecDepth 100000
set_option maxHeartbeats 1000000
/-! L7: one of some, some mixed, some cells. -/
namespace DL
open PySem PySem.Spec PyProof.Rows L2
/-! data without lists, when a list is own again -/
mutual
def noL : PyData → Bool
  | .list _ => false
  | .tuple xs => noLs xs
  | .dict _ => false
  | _ => true
def noLs : List PyData → Bool
  | [] => true
  | x :: xs => noL x && noLs xs
end
theorem noLs_map {α : Type} {enc : α → PyData} (h : ∀ a, noL (enc a) = true) : ∀ l : List α, noLs (l.map enc) = true
  | [] => rfl
  | a :: l => by rw [List.map_cons]; unfold noLs; rw [h a, noLs_map h l]; rfl
theorem noL_dn (n : Nat) : noL (dn n) = true := rfl
theorem noL_tn (l : List Nat) : noL (tn l) = true := noLs_map noL_dn l
def delG (G : Hp) (p : Addr) : Hp := fun a => if a = p then none else G a
mutual
theorem At.drop {G : Hp} {p : Addr} (hp : ∀ o xs, G p ≠ some (.frz o (.tup xs))) : ∀ {v : V} {d : PyData}, At G v d → noL d = true → At (delG G p) v d
  | _, _, .non, _ => .non
  | _, _, .bl b, _ => .bl b
  | _, _, .int i, _ => .int i
  | _, _, .str x, _ => .str x
  | _, _, .lst _ _, h => by simp [noL] at h
  | _, _, .tup (a := a) h d t, q => by
    have : a ≠ p := fun e => hp _ _ (by rw [← e]; exact h)
    refine .tup (by unfold delG; rw [if_neg this]; exact h) d (AtAll.dropp hp t (by unfold noL at q; exact q))
theorem AtAll.dropp {G : Hp} {p : Addr} (hp : ∀ o xs, G p ≠ some (.frz o (.tup xs))) : ∀ {vs : List V} {ds : List PyData}, AtAll G vs ds → noLs ds = true → AtAll (delG G p) vs ds
  | _, _, .nil, _ => .nil
  | _, _, .cons h t, q => by
    unfold noLs at q
    rw [Bool.and_eq_true] at q
    exact .cons (At.drop hp h q.1) (AtAll.dropp hp t q.2)
end
theorem seqIx {j n : Nat} (h : j < n) : seqIndex? (j : Int) n = some j := by
  unfold seqIndex?
  simp
  omega
section
variable {X : Cx} {c : DL.Ctx} {ρ : Rho} {pos : Pos} {e a b : Expr} {P : Rho → Prop} {R : PyData → Prop} {rest : List Stmt}
/-- an own list read, the answer without lists -/
theorem e_thawL (i : Nat) {ds : List PyData} {Q : PyData → Prop} (hρ : ρ[i]? = some (some (.own ds))) (h : DE X c e (ρ.set i (some (.dat (.list ds)))) Q) (q : ∀ d, Q d → noL d = true) : DE X c e ρ Q := fun σ H G S => by
  obtain ⟨p, vs, h3, h2, S1⟩ := S.freezeP hρ
  have hl : upd G p (.lst vs) p = some (.lst vs) := upd_same
  have e1 : Ex G (upd G p (.lst vs)) := Ex.new h3
  refine tW_mono (h σ H _ S1) fun v H' ⟨d, G', qd, g, a⟩ => ⟨d, delG G' p, qd, ⟨fun a o z => ?_, fun a o z => ?_, fun a n => ?_, g.h, g.bg⟩, a.drop (fun o ys z => ?_) (q d qd)⟩
  · have : a ≠ p := fun y => by rw [y, h3] at z; cases z
    unfold delG
    rw [if_neg this]
    exact g.g a o (e1 a o z)
  · unfold delG at z
    split at z
    · cases z
    · exact g.e a o z
  · unfold delG
    split
    · rename_i y
      rw [y, h3]
    · rename_i y
      rw [g.f a n, upd_ne y]
  · rw [g.g p _ hl] at z; cases z
/-- xs.append(ys.pop(e)), both own -/
theorem s_appPop (i l : Nat) {x y : Str} {px py apos cpos apos2 cpos2 : Pos} {ds es : List PyData} {Q : PyData → Prop} (hil : i ≠ l) (hρ : ρ[i]? = some (some (.own ds))) (hρ2 : ρ[l]? = some (some (.own es))) (h : DE X c e ρ Q) (hb : ∀ d, Q d → ∃ j : Nat, d = .int (j : Int) ∧ j < es.length) (hl : ds.length ≤ 1000000) (hl2 : es.length ≤ 1000000)
    (k : ∀ (j : Nat) d, es[j]? = some d → Runs X c rest ((ρ.set l (some (.own (es.eraseIdx j)))).set i (some (.own (ds ++ [d])))) P R)
    (hN : X.N[i]? = some x := by rfl) (hv : Vis X.env.scope x := by first | exact Or.inl rfl | exact Or.inr (Or.inl rfl) | exact Or.inr (Or.inr rfl))
    (hd : (x == ("__debug__" : Str)) = false := by decide) (hcd : (x == ("__classdict__" : Str)) = false := by decide)
    (hN2 : X.N[l]? = some y := by rfl) (hv2 : Vis X.env.scope y := by first | exact Or.inl rfl | exact Or.inr (Or.inl rfl) | exact Or.inr (Or.inr rfl))
    (hd2 : (y == ("__debug__" : Str)) = false := by decide) (hcd2 : (y == ("__classdict__" : Str)) = false := by decide)
    (hbase : attributeBase (.Name x px) "append" X.env (eval (.Name x px) X.env) = eval (.Name x px) X.env := by rfl)
    (hfew : ((backTo cpos (starEach ((.Call (.Attribute (.Name y py) "pop" apos2) [e] [] cpos2) :: []) X.env)).all (fun x => !x.1) && (backToKw cpos (keywordEach [] X.env)).all (fun x => x.1.isSome)
      && decide (((.Call (.Attribute (.Name y py) "pop" apos2) [e] [] cpos2 : Expr) :: []).length + ([] : List Keyword).length + (if ([] : List Keyword).isEmpty then 0 else 1) < 30)) = true := by rfl)
    (hline : (apos.endLine == cpos.line) = true := by rfl) (hs : starEach ((.Call (.Attribute (.Name y py) "pop" apos2) [e] [] cpos2) :: []) X.env = (false, eval (.Call (.Attribute (.Name y py) "pop" apos2) [e] [] cpos2) X.env) :: starEach [] X.env := by rfl) (hplain : (backTo cpos (starEach [] X.env)).any (·.1) = false := by rfl)
    (hbase2 : attributeBase (.Name y py) "pop" X.env (eval (.Name y py) X.env) = eval (.Name y py) X.env := by rfl)
    (hfew2 : ((backTo cpos2 (starEach (e :: []) X.env)).all (fun x => !x.1) && (backToKw cpos2 (keywordEach [] X.env)).all (fun x => x.1.isSome)
      && decide ((e :: []).length + ([] : List Keyword).length + (if ([] : List Keyword).isEmpty then 0 else 1) < 30)) = true := by rfl)
    (hline2 : (apos2.endLine == cpos2.line) = true := by rfl) (hs2 : starEach (e :: []) X.env = (false, eval e X.env) :: starEach [] X.env := by rfl) (hplain2 : (backTo cpos2 (starEach [] X.env)).any (·.1) = false := by rfl)
    (hsw : swapsWith (.Call (.Attribute (.Name x px) "append" apos) [.Call (.Attribute (.Name y py) "pop" apos2) [e] [] cpos2] [] cpos) none pos.line X.env = pure false := by rfl) :
    Runs X c (.Expr (.Call (.Attribute (.Name x px) "append" apos) [.Call (.Attribute (.Name y py) "pop" apos2) [e] [] cpos2] [] cpos) pos :: rest) ρ P R := fun σ H G S D hn hr => by
  refine tseq (ps_expr (pe_bm PySem.F.plainAttrs_list PySem.F.slot_list_append PySem.F.type_list_append mt_append (pe_var hN hv hd hcd) (pa_cons (pe_bm PySem.F.plainAttrs_list PySem.F.slot_list_pop PySem.F.type_list_pop mt_popAt (pe_var hN2 hv2 hd2 hcd2) (pa_cons peW pa_nil hs2) hbase2 hfew2 hline2 hs2 hplain2) pa_nil hs) hbase hfew hline hs hplain) hsw) ?_
  obtain ⟨v, h1, p, vs, rfl, h2, h3, h4, h5, h6⟩ := S.sl i _ hρ
  obtain ⟨v2, k1, q, ws, rfl, k2, k3, k4, k5, k6⟩ := S.sl l _ hρ2
  have hne : p ≠ q := fun z => S.ne i l ds es p hil hρ hρ2 h1 (by rw [k1, z])
  refine ⟨_, h1, .inl ⟨rfl, vs, SqL.of h2⟩, _, k1, .inl ⟨rfl, ws, SqL.of k2⟩, tW_mono (h σ H G S) fun z H1 ⟨d, G1, qd, g, a⟩ => ?_⟩
  obtain ⟨j, rfl, hj⟩ := hb d qd
  cases a
  have hlen := k6.length
  have hlen1 := h6.length
  obtain ⟨dj, hdj⟩ : ∃ dj, es[j]? = some dj := ⟨_, List.getElem?_eq_getElem hj⟩
  obtain ⟨vj, hvj, aj⟩ := k6.get hdj
  refine ⟨q, ws, (j : Int), j, vj, rfl, rfl, g.h q _ k5 k2, by omega, by omega, by rw [hlen]; exact seqIx hj, hvj, p, vs, vj, rfl, rfl, by rw [upd_ne hne]; exact g.h p _ h5 h2, ?_, ?_⟩
  · have h4 : sizeLine = 16777216 := sizeLine_eq
    omega
  · have S1 := S.grow g
    have S2 := S1.mut hρ2 k1 ((k6.mono g.g).eraseIdx j)
    have hρ' : (ρ.set l (some (.own (es.eraseIdx j))))[i]? = some (some (.own ds)) := by rw [List.getElem?_set_ne (Ne.symm hil)]; exact hρ
    have S3 := S2.mut hρ' h1 ((h6.mono g.g).append (.cons (aj.mono g.g) .nil))
    exact (k j dj hdj).go S3 g.g hn hr
theorem v_min2 {i j : Int} {p : Pos} (hm : X.mg "min" = none) (hc : X.calm = true) (ha : DV X c a ρ (.int i)) (hb : DV X c b ρ (.int j)) (hg : Gl X "min" := by rfl) (he : starEach [a, b] X.env = (false, eval a X.env) :: starEach [b] X.env := by rfl) (he2 : starEach [b] X.env = (false, eval b X.env) :: starEach [] X.env := by rfl) (hpl : (backTo pos (starEach [b] X.env)).any (·.1) = false := by rfl) :
    DV X c (.Call (.Name "min" p) [a, b] [] pos) ρ (.int (if j < i then j else i)) :=
  e_callB (call_min2 hc) hm (a_dv ha (a_dv hb a_nil he2) he) (fun ds q => q ▸ d_min2) (by decide +kernel) hg (by decide) (by decide) he hpl
end
end DL
namespace BT
open PySem PySem.Spec PyProof.Rows L2 DL
def T_any : PT := fun ds R => ∃ es d, ds = [d] ∧ (d = .list es ∨ d = .tuple es) ∧ es ≠ [] ∧ es.length ≤ 1000 ∧ R = fun r => r ∈ es
def T_mixed : PT := fun ds R => ∃ es d, ds = [d] ∧ (d = .list es ∨ d = .tuple es) ∧ es.length ≤ 1000 ∧ R = fun r => ∃ fs, r = .list fs ∧ fs.Perm es
def T_some_cells : PT := fun ds R => ∃ (l : List (List Nat)) (o : Nat), ds = [ltn l, dn o] ∧ l ≠ [] ∧ l.length ≤ 1000 ∧ R = fun r => ∃ m, r = ttn m ∧ m ≠ [] ∧ m.Sublist l
section
variable {P : Program} {w : World} {K : PySem.W.Frag} {mg : Str → Option Value} {base : Heap}
theorem p__law_any (D : DefAt K mg "_law_any" s__law_any) (B : Nb mg) (C : Cal P w K mg base "_law_draw" 1 ["_law_bag_here", "_law_many"] (spB T_draw)) : Cal P w K mg base "_law_any" 2 ["_law_bag_here", "_law_some"] (spB T_any) := by
  refine fn_B D c__law_any (fun ds R ⟨i, d, h, _⟩ => by rw [h]; rfl) (fun _ _ _ _ _ _ us hl => match us, hl with | [_, _], _ => rfl) fun f cdv A outer s H E G0 H0 b hr ds R ⟨es, d, h1, h3, h4, h5, h2⟩ => ?_
  subst h1 h2
  have hp := List.length_pos_iff.mpr h4
  rcases h3 with rfl | rfl
  · refine s_ret (e_ix ix_list (e_var 1 rfl) (e_calB 0 C hr (by decide) rfl (a_dv (v_len (n := es.length) B.len (e_var 1 rfl) (.inl rfl) rfl) a_nil) (fun ds q => ⟨es.length, q, hp, by omega, rfl⟩)) (fun d1 d2 q1 q2 => ?_))
    obtain ⟨n, rfl, hn⟩ := q2
    subst q1
    intro b x y G H Qv e1 a1 a2 p
    exact d_ixL (atI_nat (List.getElem?_eq_getElem hn)) b x y G H Qv e1 a1 a2 fun v H' d G' q g a => p v H' d G' (by rw [q]; exact List.getElem_mem hn) g a
  · refine s_ret (e_ix ix_tup (e_var 1 rfl) (e_calB 0 C hr (by decide) rfl (a_dv (v_len (n := es.length) B.len (e_var 1 rfl) (.inr rfl) rfl) a_nil) (fun ds q => ⟨es.length, q, hp, by omega, rfl⟩)) (fun d1 d2 q1 q2 => ?_))
    obtain ⟨n, rfl, hn⟩ := q2
    subst q1
    intro b x y G H Qv e1 a1 a2 p
    exact d_ixT (atI_nat (List.getElem?_eq_getElem hn)) b x y G H Qv e1 a1 a2 fun v H' d G' q g a => p v H' d G' (by rw [q]; exact List.getElem_mem hn) g a
theorem perm_erase {α : Type} : ∀ {l : List α} {j : Nat} {d : α}, l[j]? = some d → (d :: l.eraseIdx j).Perm l
  | [], j, d, h => by simp at h
  | x :: l, 0, d, h => by
    have : x = d := by simpa using h
    subst this
    exact List.Perm.refl _
  | x :: l, j + 1, d, h => by
    have h' : l[j]? = some d := by simpa using h
    rw [List.eraseIdx_cons_succ]
    exact (List.Perm.swap x d _).trans (List.Perm.cons x (perm_erase h'))
theorem p__law_mixed (D : DefAt K mg "_law_mixed" s__law_mixed) (B : Nb mg) (C : Cal P w K mg base "_law_draw" 1 ["_law_bag_here", "_law_many"] (spB T_draw)) : Cal P w K mg base "_law_mixed" 2 ["_law_bag_here", "_law_some"] (spB T_mixed) := by
  refine fn_B D c__law_mixed (fun ds R ⟨i, d, h, _⟩ => by rw [h]; rfl) (fun _ _ _ _ _ _ us hl => match us, hl with | [_, _], _ => rfl) fun f cdv A outer s H E G0 H0 b hr ds R ⟨es, d, h1, h3, h4, h2⟩ => ?_
  subst h1 h2
  refine s_par 2 3 (.own fun ds => ds = es) (.own fun ds => ds = []) (o_list1 B.list (e_var 1 rfl) h3) o_nil (by decide) ⟨Nat.le_of_ble_eq_true rfl, Nat.le_of_ble_eq_true rfl⟩ (fun s t q1 q2 => ?_) rfl c__law_mixed.nd
  obtain ⟨d1, rfl, e1⟩ := q1
  obtain ⟨d2, rfl, e2⟩ := q2
  rw [e1, e2]
  clear e1 e2
  refine s_for (xs := List.range es.length) (enc := dn) (fun i ρ => ∃ ls fs x4, (fs ++ ls).Perm es ∧ fs.length = i ∧ ρ = [some .bag, some (.dat d), some (.own ls), some (.own fs), x4]) rfl
    (iv_range1 (e_thaw 2 rfl (v_len B.len (e_var 2 rfl) (.inl rfl) rfl) (fun d q => by rw [q]; rfl)) (by omega) B.range) (tg_one (i := 4) c__law_mixed.nd rfl (Or.inl rfl)) (Nat.le_of_ble_eq_true rfl) (fun _ _ => trivial) PassesOwn.never ⟨es, [], none, List.Perm.refl _, rfl, rfl⟩ ?_ ?_
  · rintro i x ρ' hx ⟨ls, fs, x4, hp, hfl, rfl⟩
    have hi : i < es.length := by have := (List.getElem?_eq_some_iff.mp hx).1; simpa using this
    have hle := hp.length_eq
    rw [List.length_append] at hle
    refine s_appPop 3 2 (by decide) rfl rfl (e_calB 0 C hr (by decide) rfl (a_dv (e_thaw 2 rfl (v_len (n := ls.length) B.len (e_var 2 rfl) (.inl rfl) rfl) (fun d q => by rw [q]; rfl)) a_nil) (fun ds q => ⟨ls.length, q, by omega, by omega, rfl⟩)) (fun d ⟨n, q, hn⟩ => ⟨n, q, hn⟩) (by omega) (by omega) (fun j dj hj => s_nil ⟨ls.eraseIdx j, fs ++ [dj], _, ?_, by rw [List.length_append, hfl]; rfl, rfl⟩)
    rw [List.append_assoc, List.singleton_append]
    exact (List.Perm.append_left fs (perm_erase hj)).trans hp
  · rintro ρ' ⟨ls, fs, x4, hp, hfl, rfl⟩
    have hle := hp.length_eq
    rw [List.length_append] at hle
    rw [List.length_range] at hfl
    have : ls = [] := List.eq_nil_of_length_eq_zero (by omega)
    subst this
    rw [List.append_nil] at hp
    exact s_freeze 3 rfl (s_ret (e_imp (e_var 3 rfl) (fun d q => ⟨fs, q, hp⟩)))
theorem take_sub {α : Type} {l : List α} {i : Nat} {x : α} (h : l[i]? = some x) {m : List α} (s : m.Sublist (l.take i)) : m.Sublist (l.take (i + 1)) ∧ (m ++ [x]).Sublist (l.take (i + 1)) := by
  rw [List.take_add_one, h]
  exact ⟨s.trans (List.sublist_append_left _ _), List.Sublist.append s (List.Sublist.refl _)⟩
theorem p__law_some_cells (D : DefAt K mg "_law_some_cells" s__law_some_cells) (B : Nb mg) (C : Cal P w K mg base "_law_draw" 1 ["_law_bag_here", "_law_many"] (spB T_draw)) (C2 : Cal P w K mg base "_law_any" 2 ["_law_bag_here", "_law_some"] (spB T_any)) : Cal P w K mg base "_law_some_cells" 3 ["_law_bag_here", "_law_cells_here", "_law_often"] (spB T_some_cells) := by
  refine fn_B D c__law_some_cells (fun ds R ⟨i, d, h, _⟩ => by rw [h]; rfl) (fun _ _ _ _ _ _ us hl => match us, hl with | [_, _, _], _ => rfl) fun f cdv A outer s H E G0 H0 b hr ds R ⟨l, o, h1, h3, h4, h2⟩ => ?_
  subst h1 h2
  refine s_own 3 o_nil (fun ds q => ?_) c__law_some_cells.nd
  subst q
  refine s_for (xs := l) (enc := tn) (fun i ρ => ∃ m x4, List.Sublist m (l.take i) ∧ ρ = [some .bag, some (.dat (ltn l)), some (.dat (dn o)), some (.own (m.map tn)), x4]) rfl
    (iv_list (e_var 1 rfl)) (tg_one (i := 4) c__law_some_cells.nd rfl (Or.inl rfl)) (Nat.le_of_ble_eq_true rfl) (fun _ _ => trivial) PassesOwn.never ⟨[], none, List.nil_sublist _, rfl⟩ ?_ ?_
  · rintro i x ρ' hx ⟨m, x4, hs, rfl⟩
    have hml := hs.length_le
    rw [List.length_take] at hml
    refine s_if (Q := fun _ => True) (P1 := fun ρ => ∃ m x4, List.Sublist m (l.take (i + 1)) ∧ ρ = [some .bag, some (.dat (ltn l)), some (.dat (dn o)), some (.own (m.map tn)), x4])
      (t_cmp op_lt (e_calB 0 C hr (by decide) rfl (a_dv e_int a_nil) (fun ds q => ⟨8, q, by decide, by decide, rfl⟩)) (e_var 2 rfl) (Q := fun d => ∃ k, d = .bool k) (fun d1 d2 ⟨n, q1, _⟩ q2 => by
        subst q1 q2
        intro b x y G H Qv e1 a1 a2 p
        exact d_intcmp b x y G H Qv e1 a1 a2 fun v H' d G' q g a => p v H' d G' ⟨_, q⟩ g a) (fun d ⟨k, q⟩ => ⟨k, q, trivial⟩)) (fun _ => ?_) (fun _ => s_nil ⟨m, _, (take_sub hx hs).1, rfl⟩) (fun ρ' z => s_nil z)
    refine s_append 3 rfl (e_var 4 rfl) (by rw [List.length_map]; omega) (fun d q2 => ?_)
    subst q2
    exact s_nil ⟨m ++ [x], _, (take_sub hx hs).2, by rw [List.map_append]; rfl⟩
  · rintro ρ' ⟨m, x4, hs, rfl⟩
    rw [List.take_length] at hs
    refine s_freeze 3 rfl (s_ret (e_if (Q1 := fun k => k = !decide (m = [])) (t_neE (enc := ltn) (x := m) (y := []) hr.units pl_ltn (by decide) (fun _ _ => ltn_inj) (e_var 3 rfl) (DO.dv o_nil) |> fun h => t_is h (by congr)) (fun q => e_imp (v_tupL B.tuple (e_var 3 rfl)) (fun d q2 => ⟨m, q2, ?_, hs⟩)) (fun q => ?_)))
    · simpa using q.symm
    · refine e_tup (a_one (e_calB 0 C2 hr (by decide) rfl (a_dv (e_var 1 rfl) a_nil) (fun ds q => ⟨l.map tn, _, q, .inl rfl, by simpa using h3, by rw [List.length_map]; exact h4, rfl⟩))) (fun ds ⟨d, q1, q2⟩ => ?_)
      obtain ⟨x, hx, rfl⟩ := List.mem_map.mp q2
      subst q1
      exact ⟨Nat.le_of_ble_eq_true rfl, [x], rfl, by simp, List.singleton_sublist.mpr hx⟩
end
end BT

/-! ## text L8 -/
set_option Elab.async false
set_option linter.all false
set_option maxRecDepth 100000
set_option maxHeartbeats 1000000
/-! L8: tree lots, tree worlds. -/
namespace DL
open PySem PySem.Spec PyProof.Rows L2
section
variable {X : Cx} {c : DL.Ctx} {ρ : Rho} {pos : Pos} {e a b : Expr} {P : Rho → Prop} {R : PyData → Prop} {rest : List Stmt}
theorem o_sortI {p : Pos} {ns : List Nat} (hm : X.mg "sorted" = none) (h : DV X c e ρ (ln ns)) (hl : ns.length < 64) (hg : Gl X "sorted" := by rfl) (he : starEach [e] X.env = (false, eval e X.env) :: starEach [] X.env := by rfl) (hpl : (backTo pos (starEach [] X.env)).any (·.1) = false := by rfl) :
    DO X c (.Call (.Name "sorted" p) [e] [] pos) ρ (fun r => r = (srt ns).map dn) :=
  o_callB cr_sorted hm (a_dv h a_nil he) (fun ds q => q ▸ d_sorted hl) (by decide +kernel) hg (by decide) (by decide) he hpl
end
end DL
namespace BT
open PySem PySem.Spec PyProof.Rows L2 DL
def T_tree_lots : PT := fun ds R => ∃ many : Nat, ds = [dn many] ∧ 1 ≤ many ∧ many ≤ 6 ∧ R = fun d => ∃ fs, d = ltn fs ∧ TL many fs
theorem cut_to (o : List Nat) (n : Nat) : cutD (o.map dn) none (some (n : Int)) = (o.take n).map dn := by rw [cutD_to, List.map_take]
theorem cut_mid (o : List Nat) (m n : Nat) : cutD (o.map dn) (some (m : Int)) (some (n : Int)) = ((o.drop m).take (n - m)).map dn := by rw [cutD_mid, List.map_take, List.map_drop]
section
variable {P : Program} {w : World} {K : PySem.W.Frag} {mg : Str → Option Value} {base : Heap}
theorem p__law_tree_lots (D : DefAt K mg "_law_tree_lots" s__law_tree_lots) (B : Nb mg) (C : Cal P w K mg base "_law_draw" 1 ["_law_bag_here", "_law_many"] (spB T_draw)) (C2 : Cal P w K mg base "_law_any" 2 ["_law_bag_here", "_law_some"] (spB T_any)) (C3 : Cal P w K mg base "_law_mixed" 2 ["_law_bag_here", "_law_some"] (spB T_mixed)) :
    Cal P w K mg base "_law_tree_lots" 3 ["_law_bag_here", "_law_many"] (spB T_tree_lots) := by
  refine fn_B D c__law_tree_lots (fun ds R ⟨i, h, _⟩ => by rw [h]; rfl) (fun _ _ _ _ _ _ us hl => match us, hl with | [_, _], _ => rfl) fun f cdv A outer s H E G0 H0 b hr ds R ⟨many, h1, h3, h4, h2⟩ => ?_
  subst h1 h2
  refine s_par3 2 3 4 (.dat fun d => ∃ o : List Nat, d = ln o ∧ o.Perm (List.range many)) (.own fun ds => ds = []) (.dat fun d => d = dn 0)
    (e_imp (e_calB 0 C3 hr (by decide) rfl (a_dv (v_lstO (o_listRange rfl B.list B.range (e_var 1 rfl) (by omega)) rfl) a_nil) (fun ds q => ⟨(List.range many).map dn, _, q, .inl rfl, by rw [List.length_map, List.length_range]; omega, rfl⟩)) (fun d ⟨fs, q1, q2⟩ => by
      obtain ⟨o, h5, h6⟩ := perm_map_inv q2 _ rfl
      exact ⟨o, by rw [q1, h6]; rfl, h5⟩)) o_nil e_int (by decide) (by decide) (by decide) ⟨Nat.le_of_ble_eq_true rfl, Nat.le_of_ble_eq_true rfl, Nat.le_of_ble_eq_true rfl⟩ (fun s t u q1 q2 q3 => ?_) rfl c__law_tree_lots.nd
  obtain ⟨d1, rfl, o, rfl, ho⟩ := q1
  obtain ⟨d2, rfl, rfl⟩ := q2
  obtain ⟨d3, rfl, rfl⟩ := q3
  have ol : o.length = many := by rw [ho.length_eq, List.length_range]
  refine s_set 5 (Q := fun d => ∃ n : Nat, d = dn n ∧ 1 ≤ n ∧ n ≤ 3 ∧ n ≤ many) (e_op op_add e_int (e_calB 0 C hr (by decide) rfl (a_dv (d := dn (if many < 3 then many else 3)) (v_is (v_min2 B.min rfl e_int (e_var 1 rfl)) ?_) a_nil) (fun ds q => ⟨if many < 3 then many else 3, q, by split <;> omega, by split <;> omega, rfl⟩)) (fun d1 d2 q1 ⟨n, q2, hn⟩ => ?_)) (fun d q => ?_) c__law_tree_lots.nd
  · show PyData.int _ = PyData.int _
    congr 1
    by_cases h : many < 3
    · rw [if_pos h, if_pos (by omega)]
    · rw [if_neg h, if_neg (by omega)]; rfl
  · subst q1 q2
    intro b x y G H Qv e1 a1 a2 p
    refine d_intop b x y G H Qv e1 a1 a2 fun v H' d G' q g a => p v H' d G' ⟨1 + n, ?_, by omega, ?_, ?_⟩ g a
    · rw [q]
      show PyData.int _ = PyData.int _
      congr 1
    · split at hn <;> omega
    · split at hn <;> omega
  obtain ⟨sz, rfl, hs1, hs2, hs3⟩ := q
  have hlt : (o.take sz).length < 64 := by rw [List.length_take]; omega
  refine s_append 3 rfl (v_tupL B.tuple (v_lstO (o_sortI (ns := o.take sz) B.sorted (v_lstO (o_cut (e_var 2 rfl) bd_no (bd_int (e_var 5 rfl))) (cut_to o sz)) hlt) rfl)) (Nat.zero_le _) (fun d q => ?_)
  subst q
  refine s_setV 4 (e_var 5 rfl) ?_ c__law_tree_lots.nd
  refine s_for (xs := List.range 6) (enc := dn) (fun i ρ => ∃ fs fr x5 x6 x7 x8 x9, TLi many o i fs fr ∧ ρ = [some .bag, some (.dat (dn many)), some (.dat (ln o)), some (.own (fs.map tn)), some (.dat (dn fr)), x5, x6, x7, x8, x9]) rfl
    (iv_range1 (n := 6) e_int (by omega) B.range) (tg_one (i := 6) c__law_tree_lots.nd rfl (Or.inl rfl)) (Nat.le_of_ble_eq_true rfl) (fun _ _ => trivial) PassesOwn.never ⟨[srt (o.take sz)], sz, _, _, _, _, _, TLi.first ho hs1 hs2 hs3 (srt_perm _) (srt_pw _), rfl⟩ ?_ ?_
  · rintro i x ρ' hx ⟨fs, fr, x5, x6, x7, x8, x9, hT, rfl⟩
    have hi : i < 6 := by have := (List.getElem?_eq_some_iff.mp hx).1; simpa using this
    refine s_if (Q := fun k => k = decide (fr < many)) (P1 := fun ρ => ∃ fs fr x5 x6 x7 x8 x9, TLi many o (i + 1) fs fr ∧ ρ = [some .bag, some (.dat (dn many)), some (.dat (ln o)), some (.own (fs.map tn)), some (.dat (dn fr)), x5, x6, x7, x8, x9])
      (t_is (t_lt (e_var 4 rfl) (e_var 1 rfl)) (decide_eq_decide.mpr (by omega))) ?_ ?_ (fun ρ' z => s_nil z)
    · intro q
      have hfr : fr < many := by simpa using q.symm
      have fl := hT.len
      have fne : fs ≠ [] := by
        intro e
        have := hT.rip
        rw [e] at this
        generalize hg : ([] : List (List Nat)) = z at this
        cases this with
        | one L => cases hg
        | snoc a b c => simp at hg
      refine s_set 7 (Q := fun d => ∃ L, d = tn L ∧ L ∈ fs) (e_thawL 3 rfl (e_imp (e_calB 0 C2 hr (by decide) rfl (a_dv (e_var 3 rfl) a_nil) (fun ds q => ⟨fs.map tn, _, q, .inl rfl, by simpa using fne, by rw [List.length_map]; omega, rfl⟩)) (fun d q => by
        obtain ⟨L, hL, e⟩ := List.mem_map.mp q
        exact ⟨L, e.symm, hL⟩)) (fun d ⟨L, q, _⟩ => by rw [q]; exact noL_tn L)) (fun d q2 => ?_) c__law_tree_lots.nd
      obtain ⟨L, rfl, hL⟩ := q2
      have hLa := hT.asc L hL
      have hLs := hT.sub L hL
      have hLl : L.length ≤ 6 := by
        have := nodup_sub_len (asc_nodup hLa.1) hLs
        rw [List.length_take] at this; omega
      refine s_set 8 (Q := fun d => ∃ ks : List Nat, d = ln ks ∧ ks.length ≤ 2 ∧ ks.Nodup ∧ ∀ x ∈ ks, x ∈ L) (DO.de (o_sl (Qa := fun d => ∃ ks : List Nat, d = ln ks ∧ ks.Perm L) (Ql := fun o => o = none) (Qh := fun o => ∃ n : Nat, o = some (n : Int) ∧ n ≤ 2) (Q := fun r => ∃ ks : List Nat, r = ks.map dn ∧ ks.length ≤ 2 ∧ ks.Nodup ∧ ∀ x ∈ ks, x ∈ L) sl_list
        (e_imp (e_calB 0 C3 hr (by decide) rfl (a_dv (e_var 7 rfl) a_nil) (fun ds q => ⟨L.map dn, _, q, .inr rfl, by rw [List.length_map]; omega, rfl⟩)) (fun d ⟨gs, q1, q2⟩ => by
          obtain ⟨ks, h5, h6⟩ := perm_map_inv q2 _ rfl
          exact ⟨ks, by rw [q1, h6]; rfl, h5⟩)) bd_no
        (bd_is (e_calB 0 C hr (by decide) rfl (a_dv (d := dn (if L.length + 1 < 3 then L.length + 1 else 3)) (v_is (v_min2 (i := 3) (j := (L.length : Int) + 1) B.min rfl e_int (v_add (v_len B.len (e_var 7 rfl) (.inr rfl) (List.length_map _)) e_int)) ?_) a_nil) (fun ds q => ⟨if L.length + 1 < 3 then L.length + 1 else 3, q, by split <;> omega, by split <;> omega, rfl⟩)) (fun d ⟨n, q, hn⟩ => ⟨(n : Int), q, n, rfl, by split at hn <;> omega⟩))
        (fun d l u ⟨ks, q1, q2⟩ q3 ⟨n, q4, hn⟩ => ?_)) (fun ds ⟨ks, q, r⟩ => ⟨ks, by rw [q]; rfl, r⟩)) (fun d q2 => ?_) c__law_tree_lots.nd
      · show PyData.int _ = PyData.int _
        congr 1
        by_cases h : L.length + 1 < 3
        · rw [if_pos h, if_pos (by omega)]; omega
        · rw [if_neg h, if_neg (by omega)]; rfl
      · subst q1 q3 q4
        intro b x G H Qv e1 a1 p
        refine d_slL b x G H Qv e1 a1 fun p1 H' ds G' vs qd g n1 h' gn a' => p p1 H' ds G' vs ⟨ks.take n, ?_, ?_, ?_, ?_⟩ g n1 h' gn a'
        · rw [qd]; exact cut_to ks n
        · rw [List.length_take]; omega
        · exact (q2.nodup_iff.mpr (asc_nodup hLa.1)).sublist (List.take_sublist _ _)
        · exact fun x hx => q2.mem_iff.mp (List.mem_of_mem_take hx)
      obtain ⟨ks, rfl, hk1, hk2, hk3⟩ := q2
      refine s_set 9 (Q := fun d => ∃ n : Nat, d = dn n ∧ 1 ≤ n ∧ n ≤ 2 ∧ fr + n ≤ many) (e_op op_add e_int (e_calB 0 C hr (by decide) rfl (a_dv (d := dn (if many - fr < 2 then many - fr else 2)) (v_is (v_min2 (i := 2) (j := (many : Int) - fr) B.min rfl e_int (v_sub (e_var 1 rfl) (e_var 4 rfl))) ?_) a_nil) (fun ds q => ⟨if many - fr < 2 then many - fr else 2, q, by split <;> omega, by split <;> omega, rfl⟩)) (fun d1 d2 q1 ⟨n, q2, hn⟩ => ?_)) (fun d q2 => ?_) c__law_tree_lots.nd
      · show PyData.int _ = PyData.int _
        congr 1
        by_cases h : many - fr < 2
        · rw [if_pos h, if_pos (by omega)]; omega
        · rw [if_neg h, if_neg (by omega)]; rfl
      · subst q1 q2
        intro b x y G H Qv e1 a1 a2 p
        refine d_intop b x y G H Qv e1 a1 a2 fun v H' d G' q g a => p v H' d G' ⟨1 + n, ?_, by omega, ?_, ?_⟩ g a
        · rw [q]
          show PyData.int _ = PyData.int _
          congr 1
        · split at hn <;> omega
        · split at hn <;> omega
      obtain ⟨m, rfl, hm1, hm2, hm3⟩ := q2
      have hlt2 : (ks ++ (o.drop fr).take m).length < 64 := by rw [List.length_append, List.length_take]; omega
      refine s_append 3 rfl (v_tupL B.tuple (v_lstO (o_sortI (ns := ks ++ (o.drop fr).take m) B.sorted (v_is (v_cat (e_var 8 rfl) (v_lstO (o_cut (e_var 2 rfl) (bd_int (i := (fr : Int)) (e_var 4 rfl)) (bd_int (i := ((fr + m : Nat) : Int)) (v_is (v_add (e_var 4 rfl) (e_var 9 rfl)) rfl))) (cut_mid o fr (fr + m))) ?_) ?_) hlt2) rfl)) (by rw [List.length_map]; omega) (fun d q2 => ?_)
      · rw [List.length_map, List.length_map, List.length_take]; omega
      · unfold ln
        rw [List.map_append, Nat.add_sub_cancel_left]
      subst q2
      refine s_setV 4 (d := dn (fr + m)) (v_is (v_add (e_var 4 rfl) (e_var 9 rfl)) rfl) (s_nil ⟨fs ++ [srt (ks ++ (o.drop fr).take m)], fr + m, x5, some (.dat (dn x)), some (.dat (tn L)), some (.dat (ln ks)), some (.dat (dn m)), hT.more ho hL hk2 hk1 hk3 hm1 hm2 hm3 (srt_perm _) (srt_pw _), ?_⟩) c__law_tree_lots.nd
      rw [List.map_append]; rfl
    · intro q
      have hfr : ¬ fr < many := by simpa using q.symm
      exact s_nil ⟨fs, fr, _, _, _, _, _, hT.skip hfr, rfl⟩
  · rintro ρ' ⟨fs, fr, x5, x6, x7, x8, x9, hT, rfl⟩
    exact s_freeze 3 rfl (s_ret (e_imp (e_var 3 rfl) (fun d q => ⟨fs, q, hT.done ho (by omega)⟩)))
/-- sizes of a tree world -/
def Sz (sizes : List Nat) : Prop := 2 ≤ sizes.length ∧ ((sizes = List.replicate sizes.length 2 ∧ sizes.length ≤ 5) ∨ (sizes.length ≤ 4 ∧ ∃ j, j < sizes.length ∧ sizes = (List.replicate sizes.length 2).set j 3))
def TW (w : Wd) : Prop := ∃ fs, TL w.1.length fs ∧ w.2 = rid fs w.1.length ∧ Sz w.1
def T_tree_world : PT := fun ds R => ds = [] ∧ R = fun d => ∃ w : Wd, d = wd w ∧ TW w
theorem TL.lotLen {many : Nat} {fs : List (List Nat)} (h : TL many fs) {L : List Nat} (hL : L ∈ fs) : L.length ≤ many := by
  have := nodup_sub_len (m := List.range many) (asc_nodup (h.asc L hL).1) fun x hx => List.mem_range.mpr (h.lt L hL x hx)
  rwa [List.length_range] at this
theorem rep_flat (k : Nat) (d : PyData) : (List.replicate k [d]).flatten = List.replicate k d := by
  induction k with
  | zero => rfl
  | succ k ih => rw [List.replicate_succ, List.flatten_cons, ih, List.replicate_succ]; rfl
theorem p__law_tree_world (D : DefAt K mg "_law_tree_world" s__law_tree_world) (B : Nb mg) (C : Cal P w K mg base "_law_draw" 1 ["_law_bag_here", "_law_many"] (spB T_draw)) (C2 : Cal P w K mg base "_law_tree_lots" 3 ["_law_bag_here", "_law_many"] (spB T_tree_lots)) (C3 : Cal P w K mg base "_law_rid" 2 ["_law_lots", "_law_many"] (spD T_rid)) :
    Cal P w K mg base "_law_tree_world" 4 ["_law_bag_here"] (spB T_tree_world) := by
  refine fn_B D c__law_tree_world (fun ds R ⟨h, _⟩ => by rw [h]; rfl) (fun _ _ _ _ _ _ us hl => match us, hl with | [_], _ => rfl) fun f cdv A outer s H E G0 H0 b hr ds R ⟨h1, h2⟩ => ?_
  subst h1 h2
  refine s_set 1 (Q := fun d => ∃ n : Nat, d = dn n ∧ 2 ≤ n ∧ n ≤ 5) (e_op op_add e_int (e_calB 0 C hr (by decide) rfl (a_dv e_int a_nil) (fun ds q => ⟨4, q, by decide, by decide, rfl⟩)) (fun d1 d2 q1 ⟨n, q2, hn⟩ => ?_)) (fun d q => ?_) c__law_tree_world.nd
  · subst q1 q2
    intro b x y G H Qv e1 a1 a2 p
    refine d_intop b x y G H Qv e1 a1 a2 fun v H' d G' q g a => p v H' d G' ⟨2 + n, ?_, by omega, by omega⟩ g a
    rw [q]
    show PyData.int _ = PyData.int _
    congr 1
  obtain ⟨many, rfl, hm1, hm2⟩ := q
  refine s_set 2 (Q := fun d => ∃ fs, d = ltn fs ∧ TL many fs) (e_calB 0 C2 hr (by decide) rfl (a_dv (e_var 1 rfl) a_nil) (fun ds q => ⟨many, q, by omega, by omega, rfl⟩)) (fun d q => ?_) c__law_tree_world.nd
  obtain ⟨fs, rfl, hT⟩ := q
  have fl := hT.len
  refine s_own 3 (Q := fun ds => ds = (List.replicate many 2).map dn) (o_op op_rep (DO.dv (o_lst (Q := fun ds => ds = [dn 2]) (a_dv e_int a_nil) (fun ds q => by rw [q]; exact Nat.le_of_ble_eq_true rfl))) (e_var 1 rfl) (fun d1 d2 q1 q2 => ?_)) (fun ds q => ?_) c__law_tree_world.nd
  · subst q1 q2
    intro b x y G H Qv e1 a1 a2 p
    exact d_rep (by simp; omega) (by omega) b x y G H Qv e1 a1 a2 fun p1 H' ds G' vs qd => p p1 H' ds G' vs (by rw [qd, rep_flat, List.map_replicate])
  subst q
  have fin : ∀ (ρ : Rho) (sizes : List Nat), sizes.length = many → Sz sizes → ρ = [some .bag, some (.dat (dn many)), some (.dat (ltn fs)), some (.own (sizes.map dn))] →
      DL.Runs (cxOf CX0 P w K mg base n__law_tree_world "_law_tree_world" (defScope s__law_tree_world) f cdv A outer s H E).nox ⟨some b, G0, H0, n__law_tree_world.length⟩ [(defBody s__law_tree_world).getD 4 (.Pass ⟨0, 0, 0, 0⟩)] ρ (fun _ => ∃ w : Wd, PyData.none = wd w ∧ TW w) (fun d => ∃ w : Wd, d = wd w ∧ TW w) := fun ρ sizes hl hz hρ => by
    subst hρ
    refine s_freeze 3 rfl (s_ret (e_imp (v_tup (a_dv (v_tupL B.tuple (e_var 3 rfl)) (a_dv (e_cal C3 hr (by decide) (a_dv (e_var 2 rfl) (a_dv (e_var 1 rfl) a_nil)) (fun ds q => ⟨⟨fs, many⟩, q, ⟨fun L hL => ⟨(hT.asc L hL).2, Nat.le_trans (hT.lotLen hL) (by omega)⟩, show fs.length ≤ 100 by omega, show many ≤ 100 by omega⟩, rfl⟩)) a_nil))) (fun d q => ⟨(sizes, rid fs many), q, fs, ?_, ?_, hz⟩)))
    · show TL sizes.length fs
      rw [hl]; exact hT
    · show rid fs many = rid fs sizes.length
      rw [hl]
  refine s_if (Q := fun k => k = true → many < 5) (P1 := fun ρ => ∃ sizes : List Nat, sizes.length = many ∧ Sz sizes ∧ ρ = [some .bag, some (.dat (dn many)), some (.dat (ltn fs)), some (.own (sizes.map dn))])
    (t_pw (w_and (Q1 := fun k => k = decide (many < 5)) (Q2 := fun _ => True) (t_is (t_lt (e_var 1 rfl) e_int) (decide_eq_decide.mpr (by omega))) (fun q => w_and1 (t_cmp (op_eqD hr.units) (e_calB 0 C hr (by decide) rfl (a_dv e_int a_nil) (fun ds q => ⟨3, q, by decide, by decide, rfl⟩)) e_int (Q := fun d => ∃ k, d = .bool k) (fun d1 d2 ⟨n, q1, _⟩ q2 => by
        subst q1 q2
        intro b x y G H Qv e1 a1 a2 p
        exact d_eqD ((pl_dn n).shaped (by decide)) ((pl_dn 0).shaped (by decide)) b x y G H Qv e1 a1 a2 fun v H' d G' q g a => p v H' d G' ⟨_, q⟩ g a) (fun d ⟨k, q⟩ => ⟨k, q, trivial⟩))) (fun _ z => nomatch z) (fun k q _ _ => by simpa using q.symm))) (fun q => ?_) (fun _ => s_nil ⟨List.replicate many 2, List.length_replicate, ⟨by rw [List.length_replicate]; exact hm1, .inl ⟨by rw [List.length_replicate], by rw [List.length_replicate]; exact hm2⟩⟩, rfl⟩)
    (fun ρ' ⟨sizes, hl, hz, e⟩ => fin ρ' sizes hl hz e)
  have h5 : many < 5 := q rfl
  refine s_setItem 3 (Qv := fun d => d = dn 3) rfl e_int (e_calB 0 C hr (by decide) rfl (a_dv (e_var 1 rfl) a_nil) (fun ds q => ⟨many, q, by omega, by omega, rfl⟩)) (fun d ⟨n, q, hn⟩ => ⟨n, q, by rw [List.length_map, List.length_replicate]; exact hn⟩) (fun d j qd ⟨n, qn, hn⟩ hj => s_nil ⟨(List.replicate many 2).set j 3, by rw [List.length_set, List.length_replicate], ?_, ?_⟩)
  · rw [List.length_map, List.length_replicate] at hj
    exact ⟨by rw [List.length_set, List.length_replicate]; exact hm1, .inr ⟨by rw [List.length_set, List.length_replicate]; omega, j, by rw [List.length_set, List.length_replicate]; exact hj, by rw [List.length_set, List.length_replicate]⟩⟩
  · rw [qd, List.map_set]
    rfl
end
end BT

/-! ## text L9 -/
set_option Elab.async false
set_option linter.all false
set_option maxRecDepth 100000
set_option maxHeartbeats 1000000
/-! L9: planted worlds. -/
namespace DL
open PySem PySem.Spec PyProof.Rows L2
section
variable {X : Cx} {c : DL.Ctx} {ρ : Rho} {pos : Pos} {e a b : Expr} {P : Rho → Prop} {R : PyData → Prop} {rest : List Stmt}
/-- some truth value -/
def bl (Q : Bool → Prop) (d : PyData) : Prop := ∃ k, d = .bool k ∧ Q k
theorem x_and {rest : List Expr} {Q1 Q2 Q : Bool → Prop} (h1 : DE X c a ρ (bl Q1)) (h2 : Q1 true → DE X c (.BoolOp .And (b :: rest) pos) ρ (bl Q2)) (m1 : Q1 false → Q false) (m2 : ∀ k, Q1 true → Q2 k → Q k) : DE X c (.BoolOp .And (a :: b :: rest) pos) ρ (bl Q) := fun σ H G S =>
  tW_of (pe_and peW peW) (tW_mono (h1 σ H G S) fun x H1 ⟨d, G1, ⟨k1, q, q1⟩, g, a⟩ => by
    subst q
    cases a
    refine ⟨k1, rfl, ?_⟩
    cases k1 with
    | true =>
      show tW X _ σ H1 _
      exact tW_mono (h2 q1 σ H1 G1 (S.grow g)) fun y H2 ⟨d2, G2, ⟨k, e, q2⟩, g2, a2⟩ => ⟨d2, G2, ⟨k, e, m2 k q1 q2⟩, g.trans S.bag g2, a2⟩
    | false => exact ⟨.bool false, G1, ⟨false, rfl, m1 q1⟩, g, .bl false⟩)
theorem x_or {rest : List Expr} {Q1 Q2 Q : Bool → Prop} (h1 : DE X c a ρ (bl Q1)) (h2 : Q1 false → DE X c (.BoolOp .Or (b :: rest) pos) ρ (bl Q2)) (m1 : Q1 true → Q true) (m2 : ∀ k, Q1 false → Q2 k → Q k) : DE X c (.BoolOp .Or (a :: b :: rest) pos) ρ (bl Q) := fun σ H G S =>
  tW_of (pe_or peW peW) (tW_mono (h1 σ H G S) fun x H1 ⟨d, G1, ⟨k1, q, q1⟩, g, a⟩ => by
    subst q
    cases a
    refine ⟨k1, rfl, ?_⟩
    cases k1 with
    | false =>
      show tW X _ σ H1 _
      exact tW_mono (h2 q1 σ H1 G1 (S.grow g)) fun y H2 ⟨d2, G2, ⟨k, e, q2⟩, g2, a2⟩ => ⟨d2, G2, ⟨k, e, m2 k q1 q2⟩, g.trans S.bag g2, a2⟩
    | true => exact ⟨.bool true, G1, ⟨true, rfl, m1 q1⟩, g, .bl true⟩)
theorem x_bl {k : Bool} (h : DV X c e ρ (.bool k)) : DE X c e ρ (bl fun q => q = k) := h.imp fun d q => ⟨k, q, rfl⟩
/-- e == e2 of ints, one of them drawn -/
theorem x_eqI {Qa Qb : PyData → Prop} (hu : X.A.units + 64 < cLine) (ha : DE X c a ρ Qa) (hb : DE X c b ρ Qb) (h1 : ∀ d, Qa d → ∃ n : Nat, d = dn n) (h2 : ∀ d, Qb d → ∃ n : Nat, d = dn n) : DE X c (.Compare a [.Eq] [b] pos) ρ (bl fun _ => True) :=
  e_cmp (op_eqD hu) ha hb fun d1 d2 q1 q2 => by
    obtain ⟨n, rfl⟩ := h1 d1 q1
    obtain ⟨m, rfl⟩ := h2 d2 q2
    intro b x y G H Qv e1 a1 a2 p
    exact d_eqD ((pl_dn n).shaped (by decide)) ((pl_dn m).shaped (by decide)) b x y G H Qv e1 a1 a2 fun v H' d G' q g a => p v H' d G' ⟨_, q, trivial⟩ g a
/-- for, the walked things drawn -/
theorem s_forQ {ι α : Type} {xsOf : ι → List α} {Qi : ι → Prop} {enc : α → PyData} {B : Bnd} {tg iter : Expr} {body : List Stmt} (Iv : ι → Nat → Rho → Prop) (hc : X.calm = true) (hi : DI X c B tg iter ρ (fun as => ∃ i, Qi i ∧ as = (xsOf i).map enc)) (hg : PG X tg (B.g X.K)) (hlt : B.lt c.n) (hok : ∀ i, ∀ x ∈ xsOf i, B.ok (enc x))
    (hp : PassesOwn (model X.prog X.w) X.A X.env X.xe)
    (h0 : ∀ i, Qi i → Iv i 0 ρ) (hs : ∀ i, Qi i → ∀ (j : Nat) x ρ', (xsOf i)[j]? = some x → Iv i j ρ' → Runs X c body (B.put (enc x) ρ') (Iv i (j + 1)) R) (k : ∀ i, Qi i → ∀ ρ', Iv i (xsOf i).length ρ' → Runs X c rest ρ' P R) (hf : ∀ x, foldedSetIterable iter X.env x = pure x := by intro _; rfl) :
    Runs X c (.For tg iter body [] pos :: rest) ρ P R := fun σ H G S D hn hr => by
  refine tseq (ps_for hp hc piW hg pssW hf) (tWI_mono (hi σ H G S) fun J H1 ⟨as, G1, ⟨ii, qi, e1⟩, g1, wk⟩ => ?_)
  subst e1
  refine ⟨fun i m σ' H' => m = (xsOf ii).length - i ∧ i ≤ (xsOf ii).length ∧ ∃ ρ' G', Iv ii i ρ' ∧ Ex G1 G' ∧ St c G' σ' H' ρ', ⟨(xsOf ii).length, rfl, Nat.zero_le _, ρ, G1, h0 ii qi, Ex.refl _, S.grow g1⟩, ?_⟩
  rintro i m σ' H' ⟨rfl, hi', ρ', G', iv, e', S'⟩
  by_cases hl : i < (xsOf ii).length
  · have hx : (xsOf ii)[i]? = some (xsOf ii)[i] := List.getElem?_eq_getElem hl
    have hxe : ((xsOf ii).map enc)[i]? = some (enc (xsOf ii)[i]) := by rw [List.getElem?_map, hx]; rfl
    refine .inr ⟨wk.go G' H' i _ e' S'.gr.e hxe, fun σ'' H'' => ∃ ρ'' G'', Iv ii (i + 1) ρ'' ∧ Ex G1 G'' ∧ St c G'' σ'' H'' ρ'', fun σ'' H'' q => ⟨(xsOf ii).length - (i + 1), by omega, rfl, hl, q⟩, fun x H2 hy => ?_⟩
    obtain ⟨G2, g2, a2⟩ := wk.yld G' H' i _ x H2 e' S'.gr.e hxe hy
    refine Bnd.run (S'.grow g2) a2 (hok ii _ (List.getElem_mem hl)) hlt fun σ2 S3 _ _ => ?_
    exact hs ii qi i _ ρ' hx iv σ2 H2 G2 S3 _ (fun ρ3 σ3 H3 G3 p e S4 => ⟨ρ3, G3, p, (e'.trans g2.g).trans e, S4⟩) hr
  · have e : i = (xsOf ii).length := by omega
    subst e
    refine .inl ⟨?_, ?_⟩
    · have := wk.stop G' H' e' S'.gr.e
      rw [List.length_map] at this
      exact this
    · exact (k ii qi ρ' iv).go S' (g1.g.trans e') hn hr
end
end DL

/-! ## text L10 -/
set_option Elab.async false
set_option linter.all false
set_option maxRecDepth 100000
set_option maxHeartbeats 1000000
/-! L10: planted worlds. -/
namespace DL
open PySem PySem.Spec PyProof.Rows L2
section
variable {X : Cx} {c : DL.Ctx} {ρ : Rho} {pos : Pos} {e a b : Expr} {P : Rho → Prop} {R : PyData → Prop} {rest : List Stmt}
/-- an own list of lists of numbers read, the answer such a list -/
theorem e_thawI (i : Nat) {ds : List PyData} {Q : PyData → Prop} (hρ : ρ[i]? = some (some (.own ds))) (h : DE X c e (ρ.set i (some (.dat (.list ds)))) Q) (q : ∀ d, Q d → ∃ L, d = ln L) (hds : ∃ L r, ds = ln L :: r) : DE X c e ρ Q := fun σ H G S => by
  obtain ⟨p, vs, h3, h2, S1⟩ := S.freezeP hρ
  have hl : upd G p (.lst vs) p = some (.lst vs) := upd_same
  have e1 : Ex G (upd G p (.lst vs)) := Ex.new h3
  have hvs : ∃ a r, vs = V.ref a :: r := by
    obtain ⟨L, r, rfl⟩ := hds
    obtain ⟨v, h1, p', vs', rfl, k2, k3, k4, k5, k6⟩ := S.sl i _ hρ
    obtain ⟨v', j1, j2⟩ := S1.sl i _ (List.getElem?_set_self (List.getElem?_eq_some_iff.mp hρ).1)
    rw [h1] at j1
    cases j1
    cases j2 with
    | lst z1 z2 =>
      have : p' = p := by
        by_cases y : p' = p
        · exact y
        · rw [upd_ne y, k3] at z1; cases z1
      subst this
      rw [hl] at z1
      cases z1
      cases z2 with
      | cons a t => cases a with | lst _ _ => exact ⟨_, _, rfl⟩
  obtain ⟨a0, r0, rfl⟩ := hvs
  refine tW_mono (h σ H _ S1) fun v H' ⟨d, G', qd, g, a⟩ => ⟨d, delG G' p, qd, ⟨fun a o z => ?_, fun a o z => ?_, fun a n => ?_, g.h, g.bg⟩, ?_⟩
  · have : a ≠ p := fun y => by rw [y, h3] at z; cases z
    unfold delG
    rw [if_neg this]
    exact g.g a o (e1 a o z)
  · unfold delG at z
    split at z
    · cases z
    · exact g.e a o z
  · unfold delG
    split
    · rename_i y
      rw [y, h3]
    · rename_i y
      rw [g.f a n, upd_ne y]
  · obtain ⟨L, rfl⟩ := q d qd
    obtain ⟨r, xs, rfl, z1, _, z2⟩ := At.sqL (K := []) (Ex.refl G') a
    have hr : r ≠ p := fun y => by
      subst y
      rw [g.g _ _ hl] at z1
      cases z1
      cases L with
      | nil => cases z2
      | cons k L =>
        rw [List.map_cons] at z2
        cases z2 with
        | cons w t => cases w
    refine .lst (by unfold delG; rw [if_neg hr]; exact z1) ?_
    have e2 : L.map dn = (iz L).map PyData.int := by rw [List.map_map]; rfl
    rw [e2] at z2 ⊢
    rw [z2.ints]
    exact AtAll.ofInts _
end
end DL
namespace BT
open PySem PySem.Spec PyProof.Rows L2 DL
def Sz6 (sizes : List Nat) : Prop := 3 ≤ sizes.length ∧ ((sizes = List.replicate sizes.length 2 ∧ sizes.length ≤ 6) ∨ (sizes.length ≤ 5 ∧ ∃ j, j < sizes.length ∧ sizes = (List.replicate sizes.length 2).set j 3))
theorem rep_each {n : Nat} : ∀ s ∈ List.replicate n 2, 2 ≤ s ∧ s ≤ 4 := fun s hs => by
  have := (List.mem_replicate.mp hs).2; omega
theorem set_each {n j : Nat} : ∀ s ∈ (List.replicate n 2).set j 3, 2 ≤ s ∧ s ≤ 4 := fun s hs => by
  rcases List.mem_or_eq_of_mem_set hs with q | q
  · exact rep_each s q
  · omega
theorem rep_prod : ∀ n : Nat, n ≤ 6 → prod (List.replicate n 2) ≤ 2 ^ n := by
  have : ∀ n : Fin 7, prod (List.replicate n.1 2) ≤ 2 ^ n.1 := by decide
  exact fun n h => this ⟨n, by omega⟩
theorem set_prod : ∀ n j : Nat, n ≤ 5 → j < n → 2 * prod ((List.replicate n 2).set j 3) ≤ 3 * 2 ^ n := by
  have : ∀ n : Fin 6, ∀ j : Fin 5, j.1 < n.1 → 2 * prod ((List.replicate n.1 2).set j.1 3) ≤ 3 * 2 ^ n.1 := by decide
  exact fun n j h h2 => this ⟨n, by omega⟩ ⟨j, by omega⟩ h2
theorem Sz6.each {sizes : List Nat} (h : Sz6 sizes) : ∀ s ∈ sizes, 2 ≤ s ∧ s ≤ 4 := by
  rcases h.2 with ⟨e, _⟩ | ⟨_, j, _, e⟩
  · rw [e]; exact rep_each
  · rw [e]; exact set_each
theorem Sz6.prod {sizes : List Nat} (h : Sz6 sizes) : prod sizes ≤ 64 := by
  rcases h.2 with ⟨e, hl⟩ | ⟨hl, j, hj, e⟩
  · have := rep_prod _ hl
    rw [← e] at this
    have : 2 ^ sizes.length ≤ 2 ^ 6 := Nat.pow_le_pow_right (by decide) hl
    omega
  · have := set_prod _ j hl hj
    rw [← e] at this
    have : 2 ^ sizes.length ≤ 2 ^ 5 := Nat.pow_le_pow_right (by decide) hl
    omega
theorem Sz6.len {sizes : List Nat} (h : Sz6 sizes) : sizes.length ≤ 6 := by
  rcases h.2 with ⟨_, hl⟩ | ⟨hl, _⟩ <;> omega
/-- the row at spot i -/
def rowP (ring : Bool) (w : Wd) (corner : List Nat) (i : Nat) : List (List Nat) := (secs w.1 (lotAt w i)).filter (fun c => if ring then ringFits (lotAt w i) corner c else starFits (lotAt w i) corner c)
structure PW (w : Wd) (s : Su) (ring : Bool) (corner : List Nat) (fs : List (List Nat)) : Prop where
  sz : Sz6 w.1
  nd : corner.Nodup
  lt : ∀ x ∈ corner, x < w.1.length
  c3 : 3 ≤ corner.length
  c4 : ring = true → 4 ≤ corner.length
  pl : PL w.1.length ring corner fs
  ctx : w.2 = rid (fs.map srt) w.1.length
  rows : s = (List.range w.2.length).map (rowP ring w corner)
theorem srt_asc {l : List Nat} (h : l.Nodup) : AscI (srt l) := asc_of_le (srt_pw l) ((srt_perm l).nodup_iff.mpr h)
theorem PL.lots {many : Nat} {ring : Bool} {corner : List Nat} {fs : List (List Nat)} (h : PL many ring corner fs) : Lots many (fs.map srt) where
  asc := fun L hL => by
    obtain ⟨M, hM, rfl⟩ := List.mem_map.mp hL
    obtain ⟨h1, h2, h3⟩ := h.nd M hM
    exact ⟨srt_asc h1, fun e => h2 (by have := (srt_perm M).length_eq; rw [e] at this; exact List.eq_nil_of_length_eq_zero this.symm)⟩
  lt := fun L hL x hx => by
    obtain ⟨M, hM, rfl⟩ := List.mem_map.mp hL
    exact (h.nd M hM).2.2 x ((srt_perm M).mem_iff.mp hx)
theorem pw_ok {sizes corner : List Nat} {ring : Bool} {fs : List (List Nat)} (hz : Sz6 sizes) (h : PL sizes.length ring corner fs) : Wd.Ok (sizes, rid (fs.map srt) sizes.length) :=
  h.lots.world rfl (by have := hz.1; omega) hz.len hz.each hz.prod
def T_planted : PT := fun ds R => ds = [] ∧ R = fun d => ∃ w s ring corner fs, d = .tuple [wd w, tttn s] ∧ PW w s ring corner fs
end BT

/-! ## text L11 -/
set_option Elab.async false
set_option linter.all false
set_option maxRecDepth 100000
set_option maxHeartbeats 1000000
/-! L11: the walk of planted worlds. -/
namespace BT
open PySem PySem.Spec PyProof.Rows L2 DL
theorem atI_prev {l : List Nat} {j : Nat} (hj : j < l.length) : atI (l.map dn) ((j : Int) - 1) = some (dn (l.getD (prevOf l.length j) 0)) := by
  have hp := prev_lt hj
  have hx : ixN (l.map dn).length ((j : Int) - 1) = some (prevOf l.length j) := by
    unfold ixN prevOf
    rw [List.length_map]
    by_cases h : j = 0
    · subst h
      rw [if_neg (by omega), if_pos (by omega), if_pos rfl]
      congr 1
      omega
    · rw [if_pos (by omega), if_pos (by omega), if_neg h]
      congr 1
      omega
  unfold atI
  rw [hx]
  show (l.map dn)[prevOf l.length j]? = _
  rw [List.getElem?_map, List.getD_eq_getElem?_getD, List.getElem?_eq_getElem hp]
  rfl
section
variable {P : Program} {w : World} {K : PySem.W.Frag} {mg : Str → Option Value} {base : Heap}
theorem p__law_planted (D : DefAt K mg "_law_planted" s__law_planted) (B : Nb mg) (C : Cal P w K mg base "_law_draw" 1 ["_law_bag_here", "_law_many"] (spB T_draw)) (C2 : Cal P w K mg base "_law_any" 2 ["_law_bag_here", "_law_some"] (spB T_any)) (C3 : Cal P w K mg base "_law_mixed" 2 ["_law_bag_here", "_law_some"] (spB T_mixed)) (C4 : Cal P w K mg base "_law_rid" 2 ["_law_lots", "_law_many"] (spD T_rid))
    (C5 : Cal P w K mg base "_law_ring_row" 3 ["_law_world", "_law_spot", "_law_ring"] (spD T_ring_row)) (C6 : Cal P w K mg base "_law_star_row" 3 ["_law_world", "_law_spot", "_law_corner"] (spD T_star_row)) : Cal P w K mg base "_law_planted" 4 ["_law_bag_here"] (spB T_planted) := by
  refine fn_B D c__law_planted (fun ds R ⟨h, _⟩ => by rw [h]; rfl) (fun _ _ _ _ _ _ us hl => match us, hl with | [_], _ => rfl) fun f cdv A outer s H E G0 H0 b hr ds R ⟨h1, h2⟩ => ?_
  subst h1 h2
  have plus : ∀ {k n : Nat} {Q : PyData → Prop}, Q (dn (k + n)) → OpD (rI0 fun i j => .int (i + j)) (dn k) (dn n) Q := fun {k n Q} hq b x y G H Qv e1 a1 a2 p =>
    d_intop b x y G H Qv e1 a1 a2 fun v H' d G' q g a => p v H' d G' (by rw [q]; exact hq) g a
  refine s_set 1 (Q := fun d => ∃ n : Nat, d = dn n ∧ 3 ≤ n ∧ n ≤ 6) (e_op op_add e_int (e_calB 0 C hr (by decide) rfl (a_dv e_int a_nil) (fun ds q => ⟨4, q, by decide, by decide, rfl⟩)) (fun d1 d2 q1 ⟨n, q2, hn⟩ => by
    subst q1 q2
    exact plus (k := 3) ⟨3 + n, rfl, by omega, by omega⟩)) (fun d q => ?_) c__law_planted.nd
  obtain ⟨many, rfl, hm1, hm2⟩ := q
  refine s_set 2 (Q := fun d => ∃ n : Nat, d = dn n ∧ 3 ≤ n ∧ n ≤ many) (e_op op_add e_int (e_calB 0 C hr (by decide) rfl (a_dv (d := dn (many - 2)) (v_is (v_sub (e_var 1 rfl) e_int) ?_) a_nil) (fun ds q => ⟨many - 2, q, by omega, by omega, rfl⟩)) (fun d1 d2 q1 ⟨n, q2, hn⟩ => by
    subst q1 q2
    exact plus (k := 3) ⟨3 + n, rfl, by omega, by omega⟩)) (fun d q => ?_) c__law_planted.nd
  · show PyData.int _ = PyData.int _
    congr 1
    omega
  obtain ⟨size, rfl, hs1, hs2⟩ := q
  refine s_set 3 (Q := fun d => ∃ o : List Nat, d = ln o ∧ o.Perm (List.range many)) (e_imp (e_calB 0 C3 hr (by decide) rfl (a_dv (v_lstO (o_listRange rfl B.list B.range (e_var 1 rfl) (by omega)) rfl) a_nil) (fun ds q => ⟨(List.range many).map dn, _, q, .inl rfl, by rw [List.length_map, List.length_range]; omega, rfl⟩)) (fun d ⟨fs, q1, q2⟩ => by
      obtain ⟨o, h5, h6⟩ := perm_map_inv q2 _ rfl
      exact ⟨o, by rw [q1, h6]; rfl, h5⟩)) (fun d q => ?_) c__law_planted.nd
  obtain ⟨o, rfl, ho⟩ := q
  have ol : o.length = many := by rw [ho.length_eq, List.length_range]
  have ndo := ho.nodup_iff.mpr List.nodup_range
  have hsz : o.map dn = (o.map dn) := rfl
  refine s_unp 4 5 (Q := fun x y => x = ln (o.take size) ∧ y = ln (o.drop size)) (e_imp (v_tup (a_dv (v_lstO (o_cut (e_var 3 rfl) bd_no (bd_int (e_var 2 rfl))) (cut_to o size)) (a_dv (d := ln (o.drop size)) (v_lstO (o_cut (e_var 3 rfl) (bd_int (i := (size : Int)) (e_var 2 rfl)) bd_no) (by rw [cutD_from, ← List.map_drop])) a_nil))) (fun d q => ⟨_, _, q, rfl, rfl⟩))
    (tg_two (i := 4) (j := 5) rfl c__law_planted.nd rfl rfl (Or.inr rfl) (Or.inl rfl) (Or.inl rfl) (Or.inr rfl) rfl rfl) ⟨Nat.le_of_ble_eq_true rfl, Nat.le_of_ble_eq_true rfl⟩ (fun x y q => ?_)
  obtain ⟨rfl, rfl⟩ := q
  -- the corner
  have cl : (o.take size).length = size := by rw [List.length_take]; omega
  have cnd : (o.take size).Nodup := ndo.sublist (List.take_sublist _ _)
  have cm : ∀ x ∈ o.take size, x < many := fun x hx => List.mem_range.mp (ho.mem_iff.mp (List.mem_of_mem_take hx))
  have fm : ∀ x ∈ o.drop size, x < many ∧ x ∉ o.take size := fun x hx => ⟨List.mem_range.mp (ho.mem_iff.mp (List.mem_of_mem_drop hx)), fun hx' => by
    have hsp := List.take_append_drop size o
    have ndsp : (o.take size ++ o.drop size).Nodup := by rw [hsp]; exact ndo
    exact (List.nodup_append.mp ndsp).2.2 x hx' x hx rfl⟩
  have fl : (o.drop size).length ≤ 6 := by rw [List.length_drop]; omega
  generalize o.take size = corner at cl cnd cm fm ⊢
  generalize o.drop size = free at fm fl ⊢
  refine s_set 6 (Q := bl fun k => k = true → 4 ≤ size) (x_and (Q1 := fun k => k = decide (3 < size)) (Q2 := fun _ => True) (x_bl (v_is (v_gt (e_var 2 rfl) e_int) ?_)) (fun _ => e_one (x_or (Q1 := fun _ => True) (Q2 := fun _ => True) (e_imp (x_bl (v_gt (e_var 2 rfl) e_int)) (fun d ⟨k, q, _⟩ => ⟨k, q, trivial⟩))
    (fun _ => e_one (x_eqI hr.units (e_calB 0 C hr (by decide) rfl (a_dv e_int a_nil) (fun ds q => ⟨2, q, by decide, by decide, rfl⟩)) e_int (fun d ⟨n, q, _⟩ => ⟨n, q⟩) (fun d q => ⟨0, q⟩))) (fun _ => trivial) (fun _ _ _ => trivial))) (fun _ z => nomatch z) (fun k q _ _ => of_decide_eq_true q.symm)) (fun d q => ?_) c__law_planted.nd
  · congr 1
    exact decide_eq_decide.mpr (by omega)
  obtain ⟨ring, rfl, hring⟩ := q
  have hring : ring = true → 4 ≤ size := hring
  have c2 : 2 ≤ corner.length := by omega
  refine s_if (Q := fun k => k = ring) (P1 := fun ρ => ∃ x8 x9 x10 x11 x12 x13 x14 x15, ρ = [some .bag, some (.dat (dn many)), some (.dat (dn size)), some (.dat (ln o)), some (.dat (ln corner)), some (.dat (ln free)), some (.dat (.bool ring)), some (.own (((List.range corner.length).map (baseAt ring corner)).map ln)), x8, x9, x10, x11, x12, x13, x14, x15])
    (t_name (e_var 6 rfl)) (fun q => ?_) (fun q => ?_) ?_
  · refine s_ownLc 7 (lc_is (o_map1 8 c__law_planted (xs := List.range size) (enc := dn) (iv_range1 (e_var 2 rfl) (by omega) B.range) (by rw [List.length_range]; omega) (f := fun j => ln (baseAt ring corner j)) (fun j hj _ _ _ _ _ => ?_)) ?_) (s_nil ⟨_, _, _, _, _, _, _, _, rfl⟩)
    · have hj' : j < corner.length := by have := List.mem_range.mp hj; omega
      rw [← q]
      exact v_lstO (o_lst (Q := fun ds => ds = [dn (corner.getD (prevOf corner.length j) 0), dn (corner.getD j 0)]) (a_dv (v_ixL (e_var 4 rfl) (v_sub (e_var 8 rfl) e_int) (atI_prev hj')) (a_dv (v_ixL (e_var 4 rfl) (e_var 8 rfl) (atI_map (getD_get hj'))) a_nil)) (fun ds q => by rw [q]; exact Nat.le_of_ble_eq_true rfl)) rfl
    · rw [cl, List.map_map]; rfl
  · refine s_ownLc 7 (lc_is (o_map1 9 c__law_planted (xs := corner) (enc := dn) (iv_list (e_var 4 rfl)) (by omega) (f := fun x => ln (corner.filter fun k => !decide (k = x))) (hloc := fun _ _ => Or.inr rfl) (fun x hx _ _ _ _ _ =>
      v_lst (n_flt1 8 c__law_planted.nd (xs := corner) (enc := dn) (iv_list (e_var 4 rfl)) (by omega) (p := fun k => !decide (k = x)) (f := dn) (ok := by kernel_rfl) (fun k hk _ _ _ _ _ => ts_one (t_neE (enc := dn) (x := k) (y := x) hr.units pl_dn (by decide) (fun _ _ => dn_inj) (e_var 8 rfl) (e_var 9 rfl))) (fun k hk q _ _ _ _ _ => e_var 8 rfl)) rfl)) ?_) (s_nil ⟨_, _, _, _, _, _, _, _, rfl⟩)
    rw [List.map_map, ← q]
    apply List.ext_getElem
    · simp
    · intro i h1 h2
      simp only [List.length_map] at h1
      simp only [List.getElem_map, List.getElem_range, Function.comp_apply]
      unfold baseAt
      rw [if_neg (by decide), List.getD_eq_getElem?_getD, List.getElem?_eq_getElem h1]
      rfl
  rintro ρ' ⟨x8, x9, x10, x11, x12, x13, x14, x15, rfl⟩
  refine s_if (Q := fun k => k = !decide (free = [])) (P1 := fun ρ => ∃ fs x8 x9 x10 x11 x12 x13 x14 x15, PL many ring corner fs ∧ ρ = [some .bag, some (.dat (dn many)), some (.dat (dn size)), some (.dat (ln o)), some (.dat (ln corner)), some (.dat (ln free)), some (.dat (.bool ring)), some (.own (fs.map ln)), x8, x9, x10, x11, x12, x13, x14, x15])
    (t_is (t_neE (enc := ln) (x := free) (y := []) hr.units pl_ln (by decide) (fun _ _ => ln_inj) (e_var 5 rfl) (DO.dv o_nil)) (by congr)) (fun q => ?_) (fun q => s_nil ⟨_, _, _, _, _, _, _, _, _, PL.start cnd cm c2, rfl⟩) ?_
  · refine s_append 7 (Q := fun d => ∃ c, d = ln [c] ∧ c ∈ corner) rfl (DO.de (o_lst (a_one (e_calB 0 C2 hr (by decide) rfl (a_dv (e_var 4 rfl) a_nil) (fun ds q => ⟨corner.map dn, _, q, .inl rfl, fun e => by rw [List.map_eq_nil_iff] at e; rw [e] at c2; simp at c2, by rw [List.length_map]; omega, rfl⟩))) (fun ds ⟨d, q, _⟩ => by rw [q]; exact Nat.le_of_ble_eq_true rfl)) (fun ds ⟨d, q1, q2⟩ => by
      obtain ⟨c, hc, rfl⟩ := List.mem_map.mp q2
      exact ⟨c, by rw [q1]; rfl, hc⟩)) (by rw [List.length_map, List.length_map, List.length_range]; omega) (fun d q2 => ?_)
    obtain ⟨c, rfl, hc⟩ := q2
    have hpl0 : PL many ring corner (((List.range corner.length).map (baseAt ring corner)) ++ [[c]]) := (PL.start cnd cm c2).snoc (by simp) hc (cm c hc)
    refine s_for (xs := free) (enc := dn) (fun i ρ => ∃ fs x8 x9 x10 x11 x12 x13 x14 x15, PL many ring corner fs ∧ ρ = [some .bag, some (.dat (dn many)), some (.dat (dn size)), some (.dat (ln o)), some (.dat (ln corner)), some (.dat (ln free)), some (.dat (.bool ring)), some (.own (fs.map ln)), x8, x9, x10, x11, x12, x13, x14, x15]) rfl
      (iv_list (e_var 5 rfl)) (tg_one (i := 10) c__law_planted.nd rfl (Or.inl rfl)) (Nat.le_of_ble_eq_true rfl) (fun _ _ => trivial) PassesOwn.never ⟨_, _, _, _, _, _, _, _, _, hpl0, by rw [List.map_append]; rfl⟩ ?_ ?_
    · rintro i x ρ' hx ⟨fs, x8, x9, x10, x11, x12, x13, x14, x15, hpl, rfl⟩
      obtain ⟨hxm, hxc⟩ := fm x (List.mem_of_getElem? hx)
      refine s_forQ (xsOf := List.range) (Qi := fun n => n ≤ 3) (enc := dn) (B := .one 11) (fun _ i ρ => ∃ fs x8 x9 x11 x12 x13 x14 x15, PL many ring corner fs ∧ ρ = [some .bag, some (.dat (dn many)), some (.dat (dn size)), some (.dat (ln o)), some (.dat (ln corner)), some (.dat (ln free)), some (.dat (.bool ring)), some (.own (fs.map ln)), x8, x9, some (.dat (dn x)), x11, x12, x13, x14, x15]) rfl
        (i_range1 (Q := fun n => n ≤ 3) (e_op op_add e_int (e_calB 0 C hr (by decide) rfl (a_dv e_int a_nil) (fun ds q => ⟨3, q, by decide, by decide, rfl⟩)) (fun d1 d2 q1 ⟨n, q2, hn⟩ => by
          subst q1 q2
          exact plus (k := 1) ⟨1 + n, rfl, by omega, by omega⟩)) B.range) (tg_one (i := 11) c__law_planted.nd rfl (Or.inl rfl)) (Nat.le_of_ble_eq_true rfl) (fun _ _ _ => trivial) PassesOwn.never (fun _ _ => ⟨fs, _, _, _, _, _, _, _, hpl, rfl⟩) ?_ (fun _ _ ρ' z => ?_)
      · rintro n hn j t ρ' ht ⟨fs, x8, x9, x11, x12, x13, x14, x15, hpl, rfl⟩
        have hfl := hpl.len
        have hfne : ∃ L r, fs.map ln = ln L :: r := by
          cases fs with
          | nil => simp at hfl; omega
          | cons L r => exact ⟨L, _, rfl⟩
        refine s_set 12 (Q := fun d => ∃ n : Nat, d = dn n ∧ n < fs.length) (e_calB 0 C hr (by decide) rfl (a_dv (e_thaw 7 rfl (v_len (n := fs.length) B.len (e_var 7 rfl) (.inl rfl) (List.length_map _)) (fun d q => by rw [q]; rfl)) a_nil) (fun ds q => ⟨fs.length, q, by omega, by omega, rfl⟩)) (fun d q => ?_) c__law_planted.nd
        obtain ⟨sp, rfl, hsp⟩ := q
        obtain ⟨L, hL⟩ : ∃ L, fs[sp]? = some L := ⟨_, List.getElem?_eq_getElem hsp⟩
        obtain ⟨hLn, _, hLm⟩ := hpl.nd L (List.mem_of_getElem? hL)
        have hLl : L.length ≤ 6 := by
          have := nodup_sub_len (m := List.range many) hLn fun y hy => List.mem_range.mpr (hLm y hy)
          rw [List.length_range] at this; omega
        refine s_if (Q := fun k => k = !decide (x ∈ L)) (P1 := fun ρ => ∃ fs x8 x9 x11 x12 x13 x14 x15, PL many ring corner fs ∧ ρ = [some .bag, some (.dat (dn many)), some (.dat (dn size)), some (.dat (ln o)), some (.dat (ln corner)), some (.dat (ln free)), some (.dat (.bool ring)), some (.own (fs.map ln)), x8, x9, some (.dat (dn x)), x11, x12, x13, x14, x15])
          (t_thaw 7 rfl (t_notIn (e_var 10 rfl) (v_ixL (e_var 7 rfl) (e_var 12 rfl) (atI_map hL)) (.inr rfl))) (fun q => ?_) (fun q => s_nil ⟨fs, _, _, _, _, _, _, _, hpl, rfl⟩) (fun ρ' z => s_nil z)
        have hxL : x ∉ L := by simpa using q.symm
        refine s_setItem 7 (Qv := fun d => d = ln (L ++ [x])) rfl (e_thawI 7 rfl (v_is (v_cat (v_ixL (e_var 7 rfl) (e_var 12 rfl) (atI_map hL)) (DO.dv (o_lst (Q := fun ds => ds = [dn x]) (a_dv (e_var 10 rfl) a_nil) (fun ds q => by rw [q]; exact Nat.le_of_ble_eq_true rfl))) (by rw [List.length_map, List.length_singleton]; omega)) (by unfold ln; rw [List.map_append]; rfl)) (fun d q => ⟨_, q⟩) hfne) (e_var 12 rfl) (fun d q => ⟨sp, q, by rw [List.length_map]; exact hsp⟩) (fun d j qd qj hj => s_nil ⟨fs.set sp (L ++ [x]), x8, x9, some (.dat (dn t)), some (.dat (dn sp)), x13, x14, x15, hpl.add hL hxL hxc hxm, ?_⟩)
        have ej : j = sp := by
          have : ((j : Nat) : Int) = (sp : Nat) := PyData.int.inj qj
          omega
        subst ej
        rw [qd, List.map_set]
        rfl
      · obtain ⟨fs, x8, x9, x11, x12, x13, x14, x15, hpl, rfl⟩ := z
        exact s_nil ⟨fs, _, _, _, _, _, _, _, _, hpl, rfl⟩
    · rintro ρ' z
      exact s_nil z
  rintro ρ' ⟨fs, x8, x9, x10, x11, x12, x13, x14, x15, hpl, rfl⟩
  have hfl := hpl.len
  refine s_own 13 (Q := fun ds => ds = (List.replicate many 2).map dn) (o_op op_rep (DO.dv (o_lst (Q := fun ds => ds = [dn 2]) (a_dv e_int a_nil) (fun ds q => by rw [q]; exact Nat.le_of_ble_eq_true rfl))) (e_var 1 rfl) (fun d1 d2 q1 q2 => ?_)) (fun ds q => ?_) c__law_planted.nd
  · subst q1 q2
    intro b x y G H Qv e1 a1 a2 p
    exact d_rep (by simp; omega) (by omega) b x y G H Qv e1 a1 a2 fun p1 H' ds G' vs qd => p p1 H' ds G' vs (by rw [qd, rep_flat, List.map_replicate])
  subst q
  refine s_if (Q := fun k => k = true → many < 6) (P1 := fun ρ => ∃ sizes : List Nat, sizes.length = many ∧ Sz6 sizes ∧ ρ = [some .bag, some (.dat (dn many)), some (.dat (dn size)), some (.dat (ln o)), some (.dat (ln corner)), some (.dat (ln free)), some (.dat (.bool ring)), some (.own (fs.map ln)), x8, x9, x10, x11, x12, some (.own (sizes.map dn)), x14, x15])
    (t_pw (w_and (Q1 := fun k => k = decide (many < 6)) (Q2 := fun _ => True) (t_is (t_lt (e_var 1 rfl) e_int) (decide_eq_decide.mpr (by omega))) (fun q => w_and1 (t_cmp (op_eqD hr.units) (e_calB 0 C hr (by decide) rfl (a_dv e_int a_nil) (fun ds q => ⟨4, q, by decide, by decide, rfl⟩)) e_int (Q := fun d => ∃ k, d = .bool k) (fun d1 d2 ⟨n, q1, _⟩ q2 => by
        subst q1 q2
        intro b x y G H Qv e1 a1 a2 p
        exact d_eqD ((pl_dn n).shaped (by decide)) ((pl_dn 0).shaped (by decide)) b x y G H Qv e1 a1 a2 fun v H' d G' q g a => p v H' d G' ⟨_, q⟩ g a) (fun d ⟨k, q⟩ => ⟨k, q, trivial⟩))) (fun _ z => nomatch z) (fun k q _ _ => by simpa using q.symm))) (fun q => ?_) (fun _ => s_nil ⟨List.replicate many 2, List.length_replicate, ⟨by rw [List.length_replicate]; exact hm1, .inl ⟨by rw [List.length_replicate], by rw [List.length_replicate]; exact hm2⟩⟩, rfl⟩)
    ?_
  · have h5 : many < 6 := q rfl
    refine s_setItem 13 (Qv := fun d => d = dn 3) rfl e_int (e_calB 0 C hr (by decide) rfl (a_dv (e_var 1 rfl) a_nil) (fun ds q => ⟨many, q, by omega, by omega, rfl⟩)) (fun d ⟨n, q, hn⟩ => ⟨n, q, by rw [List.length_map, List.length_replicate]; exact hn⟩) (fun d j qd ⟨n, qn, hn⟩ hj => s_nil ⟨(List.replicate many 2).set j 3, by rw [List.length_set, List.length_replicate], ?_, ?_⟩)
    · rw [List.length_map, List.length_replicate] at hj
      exact ⟨by rw [List.length_set, List.length_replicate]; exact hm1, .inr ⟨by rw [List.length_set, List.length_replicate]; omega, j, by rw [List.length_set, List.length_replicate]; exact hj, by rw [List.length_set, List.length_replicate]⟩⟩
    · rw [qd, List.map_set]
      rfl
  rintro ρ' ⟨sizes, hl, hz, rfl⟩
  refine s_freeze 7 rfl (s_freeze 13 rfl ?_)
  have hLl : ∀ L ∈ fs, L.length ≤ 6 := fun L hL => by
    have := nodup_sub_len (m := List.range many) (hpl.nd L hL).1 fun y hy => List.mem_range.mpr ((hpl.nd L hL).2.2 y hy)
    rw [List.length_range] at this; omega
  have hlots : Lots many (fs.map srt) := hpl.lots
  have hok : Wd.Ok (sizes, rid (fs.map srt) many) := by
    have := pw_ok (sizes := sizes) hz (by rw [hl]; exact hpl)
    rw [hl] at this
    exact this
  have hrl := rid_len (fs.map srt) many
  rw [List.length_map] at hrl
  refine s_setV 14 (d := wd (sizes, rid (fs.map srt) many)) (v_tup (a_dv (v_tupL B.tuple (e_var 13 rfl)) (a_dv (e_cal C4 hr (by decide) (a_dv (d := ltn (fs.map srt)) (v_lst (o_map1 15 c__law_planted (xs := fs) (enc := ln) (iv_list (e_var 7 rfl)) (by omega) (f := fun L => tn (srt L))
    (fun L hL _ _ _ _ _ => v_tupL B.tuple (v_lstO (o_sortI (ns := L) B.sorted (e_var 15 rfl) (by have := hLl L hL; omega)) rfl))) (by rw [List.map_map]; rfl)) (a_dv (e_var 1 rfl) a_nil)) (fun ds q => ⟨⟨fs.map srt, many⟩, q, ⟨fun L hL => ?_, by show (fs.map srt).length ≤ 100; rw [List.length_map]; omega, show many ≤ 100 by omega⟩, rfl⟩)) a_nil))) ?_ c__law_planted.nd
  · obtain ⟨M, hM, rfl⟩ := List.mem_map.mp hL
    refine ⟨(hlots.asc _ (List.mem_map.mpr ⟨M, hM, rfl⟩)).2, ?_⟩
    rw [(srt_perm M).length_eq]
    have := hLl M hM
    omega
  have hpw : ∀ (w : Wd) (s : Su), w = (sizes, rid (fs.map srt) many) → s = (List.range w.2.length).map (rowP ring w corner) → PW w s ring corner fs := fun w s hw hs => by
    subst hw
    exact ⟨hz, cnd, fun x hx => by show x < sizes.length; rw [hl]; exact cm x hx, by omega, fun z => by have := hring z; omega, by show PL sizes.length ring corner fs; rw [hl]; exact hpl, by show rid (fs.map srt) many = rid (fs.map srt) sizes.length; rw [hl], hs⟩
  have cne : 1 ≤ corner.length := by omega
  have c60 : corner.length ≤ 60 := by omega
  refine s_if (Q := fun k => k = ring) (P1 := fun ρ => ring = false ∧ ρ = [some .bag, some (.dat (dn many)), some (.dat (dn size)), some (.dat (ln o)), some (.dat (ln corner)), some (.dat (ln free)), some (.dat (.bool ring)), some (.dat (.list (fs.map ln))), x8, x9, x10, x11, x12, some (.dat (.list (sizes.map dn))), some (.dat (wd (sizes, rid (fs.map srt) many))), x15]) (t_name (e_var 6 rfl)) (fun q => ?_) (fun q => s_nil ⟨q.symm, rfl⟩) ?_
  · refine s_ret (e_imp (v_tup (a_dv (e_var 14 rfl) (a_dv (v_tupL B.tuple (v_lst (o_map1 12 c__law_planted (xs := List.range (rid (fs.map srt) many).length) (enc := dn) (iv_range1 (v_len B.len (v_ixT (d := ttn (rid (fs.map srt) many)) (i := 1) (e_var 14 rfl) e_int rfl) (.inr rfl) (List.length_map _)) (by omega) B.range) (by rw [List.length_range]; omega) (f := fun i => ttn (rowP ring (sizes, rid (fs.map srt) many) corner i))
      (fun i hi _ _ _ _ _ => v_is (e_cal C5 (hr.mono (by decide)) (Nat.le_refl _) (a_dv (e_var 14 rfl) (a_dv (e_var 12 rfl) (a_dv (e_var 4 rfl) a_nil))) (fun ds q => ⟨⟨(sizes, rid (fs.map srt) many), i, corner⟩, q, ⟨hok, List.mem_range.mp hi, cne, c60⟩, rfl⟩)) ?_)) rfl)) a_nil))) (fun d q2 => ⟨_, (List.range (rid (fs.map srt) many).length).map (rowP ring (sizes, rid (fs.map srt) many) corner), ring, corner, fs, ?_, hpw _ _ rfl rfl⟩))
    · rw [← q]
      rfl
    · rw [q2]
      unfold tttn
      rw [List.map_map]
      rfl
  · rintro ρ' ⟨q, rfl⟩
    refine s_ret (e_imp (v_tup (a_dv (e_var 14 rfl) (a_dv (v_tupL B.tuple (v_lst (o_map1 12 c__law_planted (xs := List.range (rid (fs.map srt) many).length) (enc := dn) (iv_range1 (v_len B.len (v_ixT (d := ttn (rid (fs.map srt) many)) (i := 1) (e_var 14 rfl) e_int rfl) (.inr rfl) (List.length_map _)) (by omega) B.range) (by rw [List.length_range]; omega) (f := fun i => ttn (rowP ring (sizes, rid (fs.map srt) many) corner i))
      (fun i hi _ _ _ _ _ => v_is (e_cal C6 (hr.mono (by decide)) (Nat.le_refl _) (a_dv (e_var 14 rfl) (a_dv (e_var 12 rfl) (a_dv (e_var 4 rfl) a_nil))) (fun ds q => ⟨⟨(sizes, rid (fs.map srt) many), i, corner⟩, q, ⟨hok, List.mem_range.mp hi, cne, c60⟩, rfl⟩)) ?_)) rfl)) a_nil))) (fun d q2 => ⟨_, (List.range (rid (fs.map srt) many).length).map (rowP ring (sizes, rid (fs.map srt) many) corner), ring, corner, fs, ?_, hpw _ _ rfl rfl⟩))
    · rw [q]
      rfl
    · rw [q2]
      unfold tttn
      rw [List.map_map]
      rfl
end
end BT

/-! ## text M6 -/
set_option Elab.async false
set_option linter.all false
set_option maxRecDepth 100000
/-! M6: supports that agree, on trees. -/
namespace BT
open DL
/-! ### telling -/
theorem idx_range {n k : Nat} (h : k < n) : (List.range n).idxOf k = k := by
  have := idxOf_at (List.nodup_range (n := n)) (i := k) (by rw [List.length_range]; exact h)
  rwa [List.getElem_range] at this
theorem part_whole {n : Nat} {g lot : List Nat} (h : ∀ k ∈ lot, k < n) : part g (List.range n) lot = told g lot := by
  unfold part told
  apply List.map_congr_left
  intro k hk
  rw [idx_range (h k hk)]
theorem secs_cell {sizes lot c : List Nat} : c ∈ secs sizes lot ↔ CellOk sizes lot c := by
  unfold secs
  rw [mem_cells]
  unfold IsCellOf szs
  constructor
  · rintro ⟨h1, h2⟩
    rw [List.length_map] at h1
    refine ⟨h1, fun i hi hi' => ?_⟩
    have := h2 i hi (by rw [List.length_map]; exact hi')
    rw [List.getElem_map] at this
    exact this
  · rintro ⟨h1, h2⟩
    refine ⟨by rw [List.length_map]; exact h1, fun i hi hi' => ?_⟩
    rw [List.getElem_map]
    exact h2 i hi (by rw [List.length_map] at hi'; exact hi')
theorem isPoss_iff {w : Wd} {s : Su} (h : w.Has s) {g : List Nat} : isPoss w s g = true ↔ ∀ i, i < w.2.length → told g (lotAt w i) ∈ rowAt s i := by
  have hl := h.sup.len
  unfold isPoss
  rw [List.all_eq_true]
  constructor
  · intro q i hi
    have hm : (w.2.zip s)[i]? = some (lotAt w i, rowAt s i) := by
      rw [List.getElem?_zip_eq_some]
      exact ⟨(h.lot hi).2, (h.row hi).2⟩
    have := q _ (List.mem_of_getElem? hm)
    rw [decide_eq_true_eq] at this
    unfold whole at this
    rw [part_whole fun k hk => h.ok.lt _ (h.lot hi).1 k hk] at this
    exact this
  · intro q p hp
    obtain ⟨i, hi, e⟩ := List.mem_iff_getElem.mp hp
    rw [List.length_zip] at hi
    have hi' : i < w.2.length := by omega
    have hm : (w.2.zip s)[i]? = some (lotAt w i, rowAt s i) := by
      rw [List.getElem?_zip_eq_some]
      exact ⟨(h.lot hi').2, (h.row hi').2⟩
    have : p = (lotAt w i, rowAt s i) := by
      rw [List.getElem?_eq_getElem (by rw [List.length_zip]; exact hi), e] at hm
      exact Option.some.inj hm
    subst this
    rw [decide_eq_true_eq]
    unfold whole
    rw [part_whole fun k hk => h.ok.lt _ (h.lot hi').1 k hk]
    exact q i hi'
theorem poss_ext {w : Wd} {s : Su} (h : w.Has s) : poss w.1 w.2 s = ext w s := by
  unfold poss ext
  have e : globs w = cells w.1 := by unfold globs secs whole; rw [szs_range]
  rw [e]
  apply List.filter_congr
  intro g hg
  rw [Bool.eq_iff_iff, isPoss_iff h, decide_eq_true_eq, List.filter_eq_nil_iff]
  have hl := h.sup.len
  constructor
  · intro q i hi
    have : told g (lotOf w.2 i) ∈ rowOf s i := by simpa using q i (List.mem_range.mpr (by omega))
    exact this
  · intro q i hi
    have : told g (lotOf w.2 i) ∈ rowOf s i := q i (by have := List.mem_range.mp hi; omega)
    simpa using this
/-- a global assignment as a function -/
theorem ext_of {w : Wd} {s : Su} (h : w.Has s) {g : Nat → Nat} (hg : ∀ i, i < w.2.length → (lotAt w i).map g ∈ rowAt s i) :
    (List.range w.1.length).map g ∈ ext w s ∧ ∀ i, i < w.2.length → tellB w ((List.range w.1.length).map g) i ((lotAt w i).map g) = true := by
  have val : ∀ k, k < w.1.length → ((List.range w.1.length).map g).getD k 0 = g k := fun k hk => by
    rw [List.getD_eq_getElem?_getD, List.getElem?_map, List.getElem?_range hk]; rfl
  have tl : ∀ i, i < w.2.length → told ((List.range w.1.length).map g) (lotAt w i) = (lotAt w i).map g := fun i hi => by
    unfold told
    apply List.map_congr_left
    intro k hk
    exact val k (h.ok.lt _ (h.lot hi).1 k hk)
  refine ⟨?_, fun i hi => ?_⟩
  · unfold ext
    rw [List.mem_filter, isPoss_iff h]
    refine ⟨?_, fun i hi => by rw [tl i hi]; exact hg i hi⟩
    have e : globs w = cells w.1 := by unfold globs secs whole; rw [szs_range]
    rw [e, mem_cells]
    refine ⟨by rw [List.length_map, List.length_range], fun k hk hk' => ?_⟩
    rw [List.getElem_map, List.getElem_range]
    obtain ⟨C, hC, hkC⟩ := h.ok.all k hk'
    obtain ⟨i, hi, ei⟩ := List.mem_iff_getElem.mp hC
    have hlot : lotAt w i = C := by
      have := (h.lot hi).2
      rw [List.getElem?_eq_getElem hi] at this
      rw [← Option.some.inj this, ei]
    have hcell := (h.row hi).1.cell _ (hg i hi)
    rw [hlot] at hcell
    have hj : C.idxOf k < C.length := List.idxOf_lt_length_iff.mpr hkC
    have := hcell.lt (C.idxOf k) (by rw [List.length_map]; exact hj) hj
    rw [List.getElem_map, List.getElem_idxOf hj, List.getD_eq_getElem?_getD, List.getElem?_eq_getElem hk'] at this
    simpa using this
  · unfold tellB whole
    rw [part_whole fun k hk => h.ok.lt _ (h.lot hi).1 k hk, tl i hi]
    simp
/-- what agrees is told alike -/
theorem Con.fits {w : Wd} {s : Su} (h : w.Has s) (con : Con w.2 s) {i j : Nat} (hi : i < w.2.length) (hj : j < w.2.length) : fitsB w s i j = true := by
  have nd : ∀ i, i < w.2.length → (lotAt w i).Nodup := fun i hi => asc_nodup (h.ok.asc _ (h.lot hi).1)
  have one : ∀ i j, i < w.2.length → j < w.2.length → ∀ S : List Nat, (∀ k ∈ S, k ∈ lotAt w i ∧ k ∈ lotAt w j) → ∀ x, x ∈ (rowAt s i).map (fun c => part c (lotAt w i) S) → x ∈ (rowAt s j).map (fun c => part c (lotAt w j) S) := by
    intro i j hi hj S hS x hx
    obtain ⟨c, hc, rfl⟩ := List.mem_map.mp hx
    have e := map_vl (nd i hi) ((h.row hi).1.cell c hc).len
    obtain ⟨h', q1, q2⟩ := con i j hi hj (vl (lotAt w i) c) (by
      show List.map (vl (lotAt w i) c) (lotAt w i) ∈ rowAt s i
      rw [e]; exact hc)
    refine List.mem_map.mpr ⟨(lotAt w j).map h', q1, ?_⟩
    rw [part_map fun k hk => (hS k hk).2, part_vl]
    apply List.map_congr_left
    intro k hk
    exact q2 k (hS k hk).1 (hS k hk).2
  unfold fitsB
  rw [decide_eq_true_eq]
  unfold tp
  refine ascT_ext (uq_asc _) (uq_asc _) fun x => ?_
  rw [mem_uq, mem_uq]
  exact ⟨one i j hi hj _ (fun k hk => mem_common.mp hk) x, one j i hj hi _ (fun k hk => (mem_common.mp hk).symm) x⟩
/-! ### trees -/
structure Good (w : Wd) (s : Su) : Prop where
  has : w.Has s
  fits : ∀ i j, i < w.2.length → j < w.2.length → fitsB w s i j = true
  exts : ∀ i, i < w.2.length → ∀ c ∈ rowAt s i, exts w s i c ≠ []
  ext : ext w s ≠ []
theorem Good.lonely {w : Wd} {s : Su} (h : Good w s) : lonely w s = [] := by
  unfold BT.lonely
  rw [List.flatMap_eq_nil_iff]
  intro p hp
  obtain ⟨h5, h6⟩ := List.mem_zipIdx' hp
  have hl := h.has.sup.len
  unfold lonely1
  rw [List.map_eq_nil_iff, List.filter_eq_nil_iff]
  intro c hc
  have hr := (h.has.row (i := p.2) (by omega)).2
  rw [List.getElem?_eq_getElem h5, ← h6] at hr
  have hr := Option.some.inj hr
  have := h.exts p.2 (by omega) c (by rw [← hr]; exact hc)
  simpa using this
theorem TW.sizes {w : Wd} (h : TW w) : (∀ s ∈ w.1, 2 ≤ s ∧ s ≤ 4) ∧ prod w.1 ≤ 32 ∧ w.1.length ≤ 5 ∧ 2 ≤ w.1.length := by
  obtain ⟨fs, _, _, h2, h3⟩ := h
  rcases h3 with ⟨e, hl⟩ | ⟨hl, j, hj, e⟩
  · refine ⟨by rw [e]; exact rep_each, ?_, hl, h2⟩
    have := rep_prod _ (Nat.le_trans hl (by decide))
    rw [← e] at this
    have : 2 ^ w.1.length ≤ 2 ^ 5 := Nat.pow_le_pow_right (by decide) hl
    omega
  · refine ⟨by rw [e]; exact set_each, ?_, by omega, h2⟩
    have := set_prod _ j (Nat.le_trans hl (by decide)) hj
    rw [← e] at this
    have : 2 ^ w.1.length ≤ 2 ^ 4 := Nat.pow_le_pow_right (by decide) hl
    omega
theorem TW.ok {w : Wd} (h : TW w) : w.Ok ∧ w.2.length ≤ 12 := by
  obtain ⟨h1, h2, h3, h4⟩ := h.sizes
  obtain ⟨fs, t, e, _⟩ := h
  have := t.lots.world (sizes := w.1) rfl (by omega) (by omega) h1 (by omega)
  rw [← e] at this
  refine ⟨this, ?_⟩
  rw [e]
  have := rid_len fs w.1.length
  have := t.len
  omega
theorem lotM {w : Wd} {i : Nat} (hi : i < w.2.length) : lotAt w i ∈ w.2 := (Wd.Ok.lotM hi).1
theorem lot_idx {w : Wd} {C : List Nat} (h : C ∈ w.2) : ∃ i, i < w.2.length ∧ lotAt w i = C := by
  obtain ⟨i, hi, e⟩ := List.mem_iff_getElem.mp h
  refine ⟨i, hi, ?_⟩
  unfold lotAt
  rw [List.getD_eq_getElem?_getD, List.getElem?_eq_getElem hi, ← e]; rfl
theorem lot_inj {w : Wd} (h : w.Ok) {i j : Nat} (hi : i < w.2.length) (hj : j < w.2.length) (e : lotAt w i = lotAt w j) : i = j := by
  have nd : w.2.Nodup := h.ascT.imp fun {a b} q e => by rw [e, ltN_irrefl] at q; cases q
  unfold lotAt at e
  rw [List.getD_eq_getElem?_getD, List.getElem?_eq_getElem hi, List.getD_eq_getElem?_getD, List.getElem?_eq_getElem hj] at e
  simp only [Option.getD_some] at e
  have pw := List.pairwise_iff_getElem.mp nd
  rcases Nat.lt_trichotomy i j with q | q | q
  · exact absurd e (pw i j hi hj q)
  · exact q
  · exact absurd e.symm (pw j i hj hi q)
/-- on a tree what agrees extends everywhere -/
theorem tree_good {w : Wd} {s : Su} (ht : TW w) (h : w.Has s) (con : Con w.2 s) : Good w s := by
  obtain ⟨fs, t, e, hz⟩ := ht
  have nd : ∀ i, i < w.2.length → (lotAt w i).Nodup := fun i hi => asc_nodup (h.ok.asc _ (h.lot hi).1)
  let R : List Nat → (Nat → Nat) → Prop := fun C f => ∃ i, i < w.2.length ∧ lotAt w i = C ∧ C.map f ∈ rowAt s i
  have conR : ∀ C ∈ rid fs w.1.length, ∀ C' ∈ rid fs w.1.length, ∀ h, R C h → ∃ h', R C' h' ∧ ∀ x ∈ C, x ∈ C' → h' x = h x := by
    rintro C hC C' hC' f ⟨i, hi, rfl, hf⟩
    rw [← e] at hC'
    obtain ⟨j, hj, rfl⟩ := lot_idx hC'
    obtain ⟨f', q1, q2⟩ := con i j hi hj f hf
    exact ⟨f', ⟨j, hj, rfl, q1⟩, q2⟩
  have key : ∀ i, i < w.2.length → ∀ c ∈ rowAt s i, ∃ g : Nat → Nat, (lotAt w i).map g = c ∧ ∀ j, j < w.2.length → (lotAt w j).map g ∈ rowAt s j := by
    intro i hi c hc
    have ec := map_vl (nd i hi) ((h.row hi).1.cell c hc).len
    obtain ⟨g, g1, g2⟩ := t.extend conR (C := lotAt w i) (by rw [← e]; exact lotM hi) (f := vl (lotAt w i) c) ⟨i, hi, rfl, by rw [ec]; exact hc⟩
    refine ⟨g, ?_, fun j hj => ?_⟩
    · conv => rhs; rw [← ec]
      exact List.map_congr_left g1
    · obtain ⟨f, ⟨j', hj', ej, hf⟩, q⟩ := g2 (lotAt w j) (by rw [← e]; exact lotM hj)
      have := lot_inj h.ok hj' hj ej
      subst this
      rw [List.map_congr_left q]
      exact hf
  have hex : ∀ i, i < w.2.length → ∀ c ∈ rowAt s i, BT.exts w s i c ≠ [] := by
    intro i hi c hc e0
    obtain ⟨g, g1, g2⟩ := key i hi c hc
    obtain ⟨h1, h2⟩ := ext_of h g2
    have : (List.range w.1.length).map g ∈ BT.exts w s i c := by
      unfold BT.exts
      rw [List.mem_filter]
      refine ⟨h1, ?_⟩
      have := h2 i hi
      rw [g1] at this
      exact this
    rw [e0] at this
    cases this
  refine ⟨h, fun i j hi hj => con.fits h hi hj, hex, fun e0 => ?_⟩
  obtain ⟨C, hC, _⟩ := h.ok.all 0 (by have := h.ok.some.1; omega)
  obtain ⟨i, hi, _⟩ := lot_idx hC
  have hne := (h.row hi).1.ne
  obtain ⟨c, hc⟩ := List.exists_mem_of_ne_nil _ hne
  apply hex i hi c hc
  unfold BT.exts
  rw [e0]; rfl
end BT

/-! ## text M7 -/
set_option Elab.async false
set_option linter.all false
set_option maxRecDepth 100000
/-! M7: the supports of a tree world. -/
namespace BT
open DL
theorem sum_erase {α : Type} [DecidableEq α] {f : α → Nat} : ∀ {m : List α} {x : α}, x ∈ m → (m.map f).sum = f x + ((m.erase x).map f).sum
  | [], x, h => by cases h
  | y :: m, x, h => by
    by_cases e : y = x
    · subst e
      rw [List.erase_cons_head, List.map_cons, List.sum_cons]
    · rw [List.erase_cons_tail (by simpa using e), List.map_cons, List.sum_cons, List.map_cons, List.sum_cons]
      have hx : x ∈ m := by
        rcases List.mem_cons.mp h with q | q
        · exact absurd q.symm e
        · exact q
      rw [sum_erase hx]
      omega
theorem sum_sub {α : Type} [DecidableEq α] {f : α → Nat} : ∀ {l m : List α}, l.Nodup → (∀ x ∈ l, x ∈ m) → (l.map f).sum ≤ (m.map f).sum
  | [], _, _, _ => Nat.zero_le _
  | x :: l, m, h, s => by
    obtain ⟨h1, h2⟩ := List.nodup_cons.mp h
    rw [sum_erase (f := f) (s x List.mem_cons_self), List.map_cons, List.sum_cons]
    have := sum_sub (f := f) (m := m.erase x) h2 fun y hy => (List.mem_erase_of_ne fun e => h1 (by rw [← e]; exact hy)).mpr (s y (List.mem_cons_of_mem _ hy))
    omega
theorem prod_two {l : List Nat} {f : Nat → Nat} (h : ∀ x ∈ l, f x = 2) : prod (l.map f) = 2 ^ l.length := by
  induction l with
  | nil => rfl
  | cons x l ih =>
    rw [List.map_cons, prod_cons, h x List.mem_cons_self, ih fun y hy => h y (List.mem_cons_of_mem _ hy), List.length_cons, Nat.pow_succ]
    omega
theorem prod_three {l : List Nat} {f : Nat → Nat} {j : Nat} (nd : l.Nodup) (h : ∀ x ∈ l, x ≠ j → f x = 2) (hj : f j ≤ 3) : 2 * prod (l.map f) ≤ 3 * 2 ^ l.length := by
  induction l with
  | nil => show 2 * 1 ≤ 3 * 1; omega
  | cons x l ih =>
    obtain ⟨h1, h2⟩ := List.nodup_cons.mp nd
    rw [List.map_cons, prod_cons, List.length_cons, Nat.pow_succ]
    by_cases e : x = j
    · subst e
      rw [prod_two fun y hy => h y (List.mem_cons_of_mem _ hy) fun z => h1 (by rw [← z]; exact hy)]
      have := Nat.mul_le_mul_right (2 ^ l.length) hj
      omega
    · rw [h x List.mem_cons_self e]
      have := ih h2 fun y hy => h y (List.mem_cons_of_mem _ hy)
      omega
theorem secs_len {w : Wd} (C : List Nat) : (secs w.1 C).length = prod (C.map fun k => w.1.getD k 0) := by
  unfold secs
  rw [cells_count]; rfl
theorem TW.total {w : Wd} (h : TW w) : (w.2.map fun C => (secs w.1 C).length).sum ≤ 60 := by
  have hok := h.ok.1
  obtain ⟨fs, t, e, hz⟩ := h
  have nd : w.2.Nodup := hok.ascT.imp fun {a b} q e => by rw [e, ltN_irrefl] at q; cases q
  have hwt : wt w.2 ≤ wt fs := by
    unfold wt
    refine sum_sub nd fun C hC => ?_
    rw [e] at hC
    exact t.mem_every.mp (mem_rid.mp hC).1
  have tw := t.wt
  rcases hz.2 with ⟨er, hl⟩ | ⟨hl, j, hj, er⟩
  · have : (w.2.map fun C => (secs w.1 C).length).sum ≤ wt w.2 := by
      unfold wt
      refine sum_le_of _ fun C hC => ?_
      rw [secs_len]
      rw [prod_two fun k hk => by
        have := hok.lt C hC k hk
        rw [List.getD_eq_getElem?_getD, er, List.getElem?_replicate, if_pos this]; rfl]
      exact Nat.le_refl _
    omega
  · have : (w.2.map fun C => 2 * (secs w.1 C).length).sum ≤ (w.2.map fun C => 3 * 2 ^ C.length).sum := by
      refine sum_le_of _ fun C hC => ?_
      rw [secs_len]
      refine prod_three (j := j) (asc_nodup (hok.asc C hC)) (fun k hk hkj => ?_) ?_
      · have := hok.lt C hC k hk
        rw [List.getD_eq_getElem?_getD, er, List.getElem?_set_ne (Ne.symm hkj), List.getElem?_replicate, if_pos this]; rfl
      · rw [List.getD_eq_getElem?_getD, er, List.getElem?_set_self (by rw [List.length_replicate]; exact hj)]
        exact Nat.le_refl 3
    have mul : ∀ (c : Nat) (f : List Nat → Nat) (l : List (List Nat)), (l.map fun C => c * f C).sum = c * (l.map f).sum := fun c f l => by
      induction l with
      | nil => rfl
      | cons x l ih => rw [List.map_cons, List.map_cons, List.sum_cons, List.sum_cons, ih, Nat.mul_add]
    rw [mul, mul] at this
    have e2 : (w.2.map fun C => 2 ^ C.length).sum = wt w.2 := rfl
    rw [e2] at this
    omega
theorem TW.few {w : Wd} (h : TW w) {C : List Nat} (hC : C ∈ w.2) : (secs w.1 C).length ≤ 32 := by
  have hok := h.ok.1
  have hs := h.sizes
  unfold secs
  rw [cells_count]
  exact Nat.le_trans (prod_sub (szs_sub (hok.asc C hC) (hok.lt C hC)) fun s q => by have := hs.1 s q; omega) hs.2.1
/-- rows out of sections -/
def Sub (w : Wd) (s : Su) : Prop := s.length = w.2.length ∧ ∀ i, i < w.2.length → (rowAt s i).Sublist (secs w.1 (lotAt w i))
theorem Sub.has {w : Wd} {s : Su} (ht : TW w) (h : Sub w s) (ne : ∀ i, i < w.2.length → rowAt s i ≠ []) : w.Has s where
  ok := ht.ok.1
  few := Nat.le_trans ht.ok.2 (by decide)
  sup := ⟨h.1, fun i hi hi' => by
    have e1 : s[i] = rowAt s i := by
      unfold rowAt
      rw [List.getD_eq_getElem?_getD, List.getElem?_eq_getElem hi]; rfl
    have e2 : w.2[i] = lotAt w i := by
      unfold lotAt
      rw [List.getD_eq_getElem?_getD, List.getElem?_eq_getElem hi']; rfl
    rw [e1, e2]
    have hs := h.2 i hi'
    exact ⟨ne i hi', (cells_asc _).sublist hs, fun c hc => secs_cell.mp (hs.mem hc), by
      have := hs.length_le
      have := ht.few (lotM hi')
      omega⟩⟩
theorem Sub.rows {w : Wd} {s : Su} (ht : TW w) (h : Sub w s) : Rows w s where
  ok := ht.ok.1
  few := Nat.le_trans ht.ok.2 (by decide)
  len := h.1
  row := fun i hi => by
    have := (h.2 i hi).length_le
    have := ht.few (lotM hi)
    omega
  cell := fun i hi c hc => (secs_cell.mp ((h.2 i hi).mem hc)).len
theorem Sub.total {w : Wd} {s : Su} (ht : TW w) (h : Sub w s) : total s ≤ 60 := by
  refine Nat.le_trans ?_ ht.total
  rw [total_range, h.1]
  have e : (w.2.map fun C => (secs w.1 C).length) = (List.range w.2.length).map fun i => (secs w.1 (lotAt w i)).length := by
    apply List.ext_getElem
    · simp
    · intro i h1 h2
      rw [List.length_map] at h1
      rw [List.getElem_map, List.getElem_map, List.getElem_range]
      unfold lotAt
      rw [List.getD_eq_getElem?_getD, List.getElem?_eq_getElem h1]; rfl
  rw [e]
  exact sum_le_of _ fun i hi => (h.2 i (List.mem_range.mp hi)).length_le
/-- what is shrunk, where no row is empty -/
theorem shrunk_good {w : Wd} {s : Su} (ht : TW w) (h : Sub w s) (ne : ∀ r ∈ shrN w.2 64 s, r ≠ []) : Good w (shrN w.2 64 s) := by
  obtain ⟨h1, h2⟩ := shrN_sub (ctx := w.2) 64 s
  have hsub : Sub w (shrN w.2 64 s) := ⟨h1.trans h.1, fun i hi => (h2 i (by rw [h.1]; exact hi)).trans (h.2 i hi)⟩
  have hhas : w.Has (shrN w.2 64 s) := hsub.has ht fun i hi => ne _ (by
    have := rowGet (s := shrN w.2 64 s) (i := i) (by rw [hsub.1]; exact hi)
    exact List.mem_of_getElem? this)
  refine tree_good ht hhas (fix_con hsub.1 (fun i hi => asc_nodup (hhas.ok.asc _ (lotM hi))) (fun i hi c hc => (hsub.rows ht).cell i hi c hc) ?_)
  exact shrN_fix 64 s (Nat.le_trans (h.total ht) (by decide))
/-- the rows of whole assignments -/
theorem wholes_good {w : Wd} {wh : List (List Nat)} (ht : TW w) (hs : ∀ g ∈ wh, g ∈ cells w.1) (ne : wh ≠ []) : Good w (w.2.map (wholesRow wh)) := by
  have hok := ht.ok.1
  have rowE : ∀ i, i < w.2.length → rowAt (w.2.map (wholesRow wh)) i = wholesRow wh (lotAt w i) := fun i hi => by
    unfold rowAt lotAt
    rw [List.getD_eq_getElem?_getD, List.getElem?_map, List.getElem?_eq_getElem hi, List.getD_eq_getElem?_getD, List.getElem?_eq_getElem hi]; rfl
  have memR : ∀ (C c : List Nat), c ∈ wholesRow wh C ↔ ∃ g ∈ wh, told g C = c := fun C c => by
    unfold wholesRow
    rw [(srtT_perm _).mem_iff, mem_dedup, List.mem_map]
  have cellR : ∀ C ∈ w.2, ∀ g ∈ wh, CellOk w.1 C (told g C) := fun C hC g hg => by
    obtain ⟨h1, h2⟩ := mem_cells.mp (hs g hg)
    refine ⟨by unfold told; rw [List.length_map], fun i hi hi' => ?_⟩
    have e0 : (told g C)[i] = g.getD C[i] 0 := by simp only [told, List.getElem_map]
    rw [e0]
    have hk := hok.lt C hC C[i] (List.getElem_mem hi')
    have := h2 C[i] (by rw [h1]; exact hk) hk
    rw [List.getD_eq_getElem?_getD, List.getElem?_eq_getElem (by rw [h1]; exact hk), List.getD_eq_getElem?_getD, List.getElem?_eq_getElem hk]
    exact this
  have hhas : w.Has (w.2.map (wholesRow wh)) := by
    refine ⟨hok, Nat.le_trans ht.ok.2 (by decide), ⟨by rw [List.length_map], fun i hi hi' => ?_⟩⟩
    rw [List.getElem_map]
    have hC : w.2[i] ∈ w.2 := List.getElem_mem hi'
    have asc : AscT (wholesRow wh w.2[i]) := srtT_asc (dedup_nodup _)
    refine ⟨?_, asc, fun c hc => ?_, ?_⟩
    · obtain ⟨g, hg⟩ := List.exists_mem_of_ne_nil _ ne
      intro e
      have : told g w.2[i] ∈ wholesRow wh w.2[i] := (memR _ _).mpr ⟨g, hg, rfl⟩
      rw [e] at this
      cases this
    · obtain ⟨g, hg, rfl⟩ := (memR _ _).mp hc
      exact cellR _ hC g hg
    · have nd : (wholesRow wh w.2[i]).Nodup := asc.imp fun {a b} q e => by rw [e, ltN_irrefl] at q; cases q
      have := nodup_sub_len (m := secs w.1 w.2[i]) nd fun c hc => by
        obtain ⟨g, hg, rfl⟩ := (memR _ _).mp hc
        exact secs_cell.mpr (cellR _ hC g hg)
      have := ht.few hC
      omega
  refine tree_good ht hhas fun i j hi hj f hf => ?_
  have hf : (lotAt w i).map f ∈ rowAt (w.2.map (wholesRow wh)) i := hf
  rw [rowE i hi, memR] at hf
  obtain ⟨g, hg, e⟩ := hf
  refine ⟨fun k => g.getD k 0, ?_, fun x hx hx' => ?_⟩
  · show (lotAt w j).map (fun k => g.getD k 0) ∈ rowAt (w.2.map (wholesRow wh)) j
    rw [rowE j hj, memR]
    exact ⟨g, hg, rfl⟩
  · rw [told_fn] at e
    exact map_eq_on e x hx
end BT

/-! ## text M8 -/
set_option Elab.async false
set_option linter.all false
set_option maxRecDepth 100000
/-! M8: planted supports agree and extend nowhere. -/
namespace BT
open DL
theorem prev_prev {size j : Nat} (h : j < size) (h3 : 3 ≤ size) : prevOf size (prevOf size j) ≠ j := by
  unfold prevOf
  split
  · split <;> omega
  · split <;> omega
theorem getD_inj {l : List Nat} (h : l.Nodup) {i j : Nat} (hi : i < l.length) (hj : j < l.length) : l.getD i 0 = l.getD j 0 ↔ i = j :=
  ⟨nodup_getD h hi hj, fun e => by rw [e]⟩
section
variable {many : Nat} {ring : Bool} {corner : List Nat} {fs : List (List Nat)}
theorem mem_star {j : Nat} {x : Nat} : x ∈ baseAt false corner j ↔ x ∈ corner ∧ x ≠ corner.getD j 0 := by
  unfold baseAt
  rw [if_neg (by decide), List.mem_filter]
  simp
theorem mem_ring {j : Nat} {x : Nat} : x ∈ baseAt true corner j ↔ x = corner.getD (prevOf corner.length j) 0 ∨ x = corner.getD j 0 := by
  unfold baseAt
  rw [if_pos rfl]
  simp
/-- a base lies in no other base -/
theorem base_in {i j : Nat} (hc : corner.Nodup) (h3 : 3 ≤ corner.length) (hi : i < corner.length) (hj : j < corner.length) (h : ∀ x ∈ baseAt ring corner i, x ∈ baseAt ring corner j) : i = j := by
  cases ring with
  | true =>
    have p1 := prev_lt hi
    have p2 := prev_lt hj
    have a := mem_ring.mp (h _ (mem_ring.mpr (.inl rfl)))
    have b := mem_ring.mp (h _ (mem_ring.mpr (.inr rfl)))
    rw [getD_inj hc p1 p2, getD_inj hc p1 hj] at a
    rw [getD_inj hc hi p2, getD_inj hc hi hj] at b
    rcases b with b | b
    · rcases a with a | a
      · exact absurd (a.trans b.symm) (prev_ne hi (by omega))
      · rw [b] at a
        exact absurd a (prev_prev hj h3)
    · exact b
  | false =>
    by_cases e : i = j
    · exact e
    · have := h (corner.getD j 0) (mem_star.mpr ⟨getD_mem hj, fun q => e (nodup_getD hc hj hi q).symm⟩)
      exact absurd rfl (mem_star.mp this).2
/-- a base has two -/
theorem base_two {j : Nat} (hc : corner.Nodup) (h3 : 3 ≤ corner.length) (hj : j < corner.length) : ∃ x ∈ baseAt ring corner j, ∃ y ∈ baseAt ring corner j, x ≠ y := by
  have p := prev_lt hj
  cases ring with
  | true => exact ⟨_, mem_ring.mpr (.inl rfl), _, mem_ring.mpr (.inr rfl), fun q => prev_ne hj (by omega) (nodup_getD hc p hj q)⟩
  | false =>
    have pp := prev_lt p
    refine ⟨corner.getD (prevOf corner.length j) 0, mem_star.mpr ⟨getD_mem p, fun q => prev_ne hj (by omega) (nodup_getD hc p hj q)⟩, corner.getD (prevOf corner.length (prevOf corner.length j)) 0, mem_star.mpr ⟨getD_mem pp, fun q => prev_prev hj h3 (nodup_getD hc pp hj q)⟩, fun q => ?_⟩
    exact prev_ne p (by omega) (nodup_getD hc p pp q).symm
/-- a base leaves one out -/
theorem base_out {j : Nat} (hc : corner.Nodup) (h3 : 3 ≤ corner.length) (hj : j < corner.length) : ∃ x ∈ corner, x ∉ baseAt ring corner j := by
  have p := prev_lt hj
  have pp := prev_lt p
  cases ring with
  | true =>
    refine ⟨_, getD_mem pp, fun q => ?_⟩
    rcases mem_ring.mp q with q | q
    · exact prev_ne p (by omega) (nodup_getD hc pp p q)
    · exact prev_prev hj h3 (nodup_getD hc pp hj q)
  | false => exact ⟨_, getD_mem hj, fun q => (mem_star.mp q).2 rfl⟩
/-- what a context has of the corner: a base, or one at most -/
def One (corner C : List Nat) : Prop := ∀ x y, x ∈ C → x ∈ corner → y ∈ C → y ∈ corner → x = y
def IsBase (ring : Bool) (corner C : List Nat) (j : Nat) : Prop := ∀ x, (x ∈ C ∧ x ∈ corner) ↔ x ∈ baseAt ring corner j
theorem PL.cls (h : PL many ring corner fs) {C : List Nat} (hC : C ∈ rid (fs.map srt) many) : (∃ j L, fs[j]? = some L ∧ j < corner.length ∧ C = srt L ∧ IsBase ring corner C j) ∨ One corner C := by
  rcases mem_every.mp (mem_rid.mp hC).1 with q | ⟨k, _, _, rfl⟩
  · obtain ⟨L, hL, rfl⟩ := List.mem_map.mp q
    obtain ⟨j, hj, e⟩ := List.mem_iff_getElem.mp hL
    have hjL : fs[j]? = some L := by rw [List.getElem?_eq_getElem hj, e]
    by_cases hlt : j < corner.length
    · refine .inl ⟨j, L, hjL, hlt, rfl, fun x => ?_⟩
      rw [(srt_perm L).mem_iff]
      exact h.base j L hjL hlt x
    · have : j = corner.length := by rcases h.len with q | q <;> omega
      subst this
      obtain ⟨c, _, hc⟩ := h.one L hjL
      refine .inr fun x y h1 h2 h3 h4 => ?_
      rw [(srt_perm L).mem_iff] at h1 h3
      rw [hc x h1 h2, hc y h3 h4]
  · refine .inr fun x y h1 _ h3 _ => ?_
    rw [List.mem_singleton] at h1 h3
    rw [h1, h3]
/-- a context whose corner part lies in another has one at most -/
theorem PL.apart (h : PL many ring corner fs) (hc : corner.Nodup) (h3 : 3 ≤ corner.length) {C C' : List Nat} (hC : C ∈ rid (fs.map srt) many) (hC' : C' ∈ rid (fs.map srt) many) (ne : C ≠ C') : One corner C ∨ ∃ y ∈ C, y ∈ corner ∧ y ∉ C' := by
  rcases h.cls hC with ⟨j, L, hL, hj, rfl, hb⟩ | q
  · refine .inr ?_
    apply Classical.byContradiction
    intro no
    have sub : ∀ x ∈ baseAt ring corner j, x ∈ C' ∧ x ∈ corner := fun x hx => by
      obtain ⟨h1, h2⟩ := (hb x).mpr hx
      exact ⟨Classical.byContradiction fun z => no ⟨x, h1, h2, z⟩, h2⟩
    rcases h.cls hC' with ⟨j', L', hL', hj', rfl, hb'⟩ | q
    · have := base_in hc h3 hj hj' fun x hx => (hb' x).mp (sub x hx)
      subst this
      rw [hL] at hL'
      cases hL'
      exact ne rfl
    · obtain ⟨x, hx, y, hy, hxy⟩ := base_two (ring := ring) hc h3 hj
      exact hxy (q x y (sub x hx).1 (sub x hx).2 (sub y hy).1 (sub y hy).2)
  · exact .inl q
/-- every base is the corner part of a context -/
theorem PL.has_base (h : PL many ring corner fs) (hc : corner.Nodup) (h3 : 3 ≤ corner.length) {j : Nat} (hj : j < corner.length) : ∃ C ∈ rid (fs.map srt) many, IsBase ring corner C j := by
  have hjf : j < fs.length := by rcases h.len with q | q <;> omega
  have hL : fs[j]? = some fs[j] := List.getElem?_eq_getElem hjf
  obtain ⟨C, hC, hs⟩ := h.lots.up (List.mem_map.mpr ⟨fs[j], List.getElem_mem hjf, rfl⟩)
  have sub : ∀ x ∈ baseAt ring corner j, x ∈ C ∧ x ∈ corner := fun x hx => by
    obtain ⟨h1, h2⟩ := (h.base j _ hL hj x).mpr hx
    exact ⟨hs x ((srt_perm _).mem_iff.mpr h1), h2⟩
  rcases h.cls hC with ⟨j', L', hL', hj', e, hb'⟩ | q
  · have := base_in hc h3 hj hj' fun x hx => (hb' x).mp (sub x hx)
    subst this
    exact ⟨C, hC, hb'⟩
  · obtain ⟨x, hx, y, hy, hxy⟩ := base_two (ring := ring) hc h3 hj
    exact absurd (q x y (sub x hx).1 (sub x hx).2 (sub y hy).1 (sub y hy).2) hxy
/-- a context leaves one of the corner out -/
theorem PL.out (h : PL many ring corner fs) (hc : corner.Nodup) (h3 : 3 ≤ corner.length) {C : List Nat} (hC : C ∈ rid (fs.map srt) many) : ∃ y ∈ corner, y ∉ C := by
  rcases h.cls hC with ⟨j, L, hL, hj, rfl, hb⟩ | q
  · obtain ⟨x, h1, h2⟩ := base_out (ring := ring) hc h3 hj
    exact ⟨x, h1, fun z => h2 ((hb x).mp ⟨z, h1⟩)⟩
  · apply Classical.byContradiction
    intro no
    have all : ∀ x ∈ corner, x ∈ C := fun x hx => Classical.byContradiction fun z => no ⟨x, hx, z⟩
    have h0 : 0 < corner.length := by omega
    have h1 : 1 < corner.length := by omega
    have := q _ _ (all _ (getD_mem h0)) (getD_mem h0) (all _ (getD_mem h1)) (getD_mem h1)
    have := nodup_getD hc h0 h1 this
    omega
end
/-! ### rows as functions -/
def RP (ring : Bool) (corner C : List Nat) (h : Nat → Nat) : Prop :=
  (∀ k ∈ C, h k ≤ capR corner k) ∧ (if ring = true then ∀ a b, innerOf C corner = [a, b] → ((!decide (h a = h b)) = tiedB corner a b) else ((innerOf C corner).map h).sum = 1 ∨ (((innerOf C corner).map h).sum = 0 ∧ (innerOf C corner).length < corner.length - 1))
theorem mem_inner {C corner : List Nat} {x : Nat} : x ∈ innerOf C corner ↔ x ∈ C ∧ x ∈ corner := by
  unfold innerOf
  rw [List.mem_filter]
  simp
theorem lowOk_iff {C corner : List Nat} {h : Nat → Nat} : lowOk C corner (C.map h) = true ↔ ∀ k ∈ C, h k ≤ capR corner k := by
  unfold lowOk
  rw [decide_eq_true_eq, List.filter_eq_nil_iff]
  constructor
  · intro q k hk
    obtain ⟨i, hi, e⟩ := List.mem_iff_getElem.mp hk
    have := q i (List.mem_range.mpr (by rw [List.length_map]; exact hi))
    rw [List.getD_eq_getElem?_getD, List.getElem?_eq_getElem hi, List.getD_eq_getElem?_getD, List.getElem?_map, List.getElem?_eq_getElem hi] at this
    simp only [decide_eq_true_eq, Option.getD_some, Option.map_some, e] at this
    omega
  · intro q i hi
    have hi : i < C.length := by have := List.mem_range.mp hi; rwa [List.length_map] at this
    rw [List.getD_eq_getElem?_getD, List.getElem?_eq_getElem hi, List.getD_eq_getElem?_getD, List.getElem?_map, List.getElem?_eq_getElem hi]
    have := q C[i] (List.getElem_mem hi)
    simp only [decide_eq_true_eq, Option.getD_some, Option.map_some]
    omega
theorem valAt_map {C : List Nat} {h : Nat → Nat} {k : Nat} (hk : k ∈ C) : valAt C (C.map h) k = h k := vl_map hk
theorem cap_one (corner : List Nat) (k : Nat) : capR corner k ≤ 1 := by unfold capR; split <;> omega
theorem cap_in {corner : List Nat} {k : Nat} (h : k ∈ corner) : capR corner k = 1 := if_pos h
theorem row_iff {w : Wd} {ring : Bool} {corner : List Nat} {i : Nat} (he : ∀ s ∈ w.1, 2 ≤ s ∧ s ≤ 4) (hl : ∀ k ∈ lotAt w i, k < w.1.length) {h : Nat → Nat} : (lotAt w i).map h ∈ rowP ring w corner i ↔ RP ring corner (lotAt w i) h := by
  have fit : (if ring then ringFits (lotAt w i) corner ((lotAt w i).map h) else starFits (lotAt w i) corner ((lotAt w i).map h)) = true ↔ RP ring corner (lotAt w i) h := by
    cases ring with
    | true =>
      unfold RP ringFits
      simp only [if_true]
      match e : innerOf (lotAt w i) corner with
      | [a, b] =>
        have ha := (mem_inner.mp (by rw [e]; simp : a ∈ innerOf (lotAt w i) corner)).1
        have hb := (mem_inner.mp (by rw [e]; simp : b ∈ innerOf (lotAt w i) corner)).1
        simp only [Bool.and_eq_true, lowOk_iff, valAt_map ha, valAt_map hb, beq_iff_eq]
        refine and_congr Iff.rfl ⟨fun q a' b' e' => ?_, fun q => q a b rfl⟩
        injection e' with e1 e2
        injection e2 with e2 _
        subst e1 e2
        exact q
      | [] => simp only [lowOk_iff]; exact ⟨fun q => ⟨q, fun _ _ e' => nomatch e'⟩, fun q => q.1⟩
      | [_] => simp only [lowOk_iff]; exact ⟨fun q => ⟨q, fun _ _ e' => by simp at e'⟩, fun q => q.1⟩
      | _ :: _ :: _ :: _ => simp only [lowOk_iff]; exact ⟨fun q => ⟨q, fun _ _ e' => by simp at e'⟩, fun q => q.1⟩
    | false =>
      unfold RP starFits
      have es : onesOf (lotAt w i) corner ((lotAt w i).map h) = ((innerOf (lotAt w i) corner).map h).sum := by
        unfold onesOf
        congr 1
        apply List.map_congr_left
        intro k hk
        exact valAt_map (mem_inner.mp hk).1
      rw [es]
      simp only [Bool.false_eq_true, if_false, Bool.and_eq_true, Bool.or_eq_true, lowOk_iff, decide_eq_true_eq]
  unfold rowP
  rw [List.mem_filter, fit, secs_cell]
  refine ⟨fun q => q.2, fun q => ⟨⟨by rw [List.length_map], fun j hj hj' => ?_⟩, q⟩⟩
  rw [List.getElem_map]
  have hk := hl _ (List.getElem_mem hj')
  have h1 := q.1 _ (List.getElem_mem hj')
  have h2 := cap_one corner (lotAt w i)[j]
  rw [List.getD_eq_getElem?_getD, List.getElem?_eq_getElem hk]
  have h4 := he _ (List.getElem_mem hk)
  simp only [Option.getD_some]
  omega
end BT

/-! ## text M9 -/
set_option Elab.async false
set_option linter.all false
set_option maxRecDepth 100000
/-! M9: planted supports agree and extend nowhere. -/
namespace BT
open DL
theorem inner_nodup {C corner : List Nat} (h : C.Nodup) : (innerOf C corner).Nodup := h.filter _
theorem sum_filter_zero {l : List Nat} {u : Nat → Nat} {p : Nat → Bool} : (l.map fun k => if p k = true then u k else 0).sum = ((l.filter p).map u).sum := by
  induction l with
  | nil => rfl
  | cons x l ih =>
    rw [List.map_cons, List.sum_cons, ih, List.filter_cons]
    by_cases h : p x = true
    · rw [if_pos h, if_pos h, List.map_cons, List.sum_cons]
    · rw [if_neg h, if_neg h]; omega
theorem srt_comm (a b : Nat) : srt [a, b] = srt [b, a] := srt_of ((srt_perm [a, b]).trans (List.Perm.swap b a [])) (srt_pw _)
theorem tied_comm (corner : List Nat) (a b : Nat) : tiedB corner a b = tiedB corner b a := by unfold tiedB; rw [srt_comm]
theorem srt_two {a b : Nat} (h : a ≤ b) : srt [a, b] = [a, b] := (srt_of (List.Perm.refl _) (by simp [h])).symm
theorem one_inner {C corner : List Nat} (hn : C.Nodup) (h : One corner C) : innerOf C corner = [] ∨ ∃ x, innerOf C corner = [x] := by
  have nd := inner_nodup (corner := corner) hn
  match e : innerOf C corner with
  | [] => exact .inl rfl
  | [x] => exact .inr ⟨x, rfl⟩
  | x :: y :: r =>
    exfalso
    rw [e] at nd
    have hx := mem_inner.mp (by rw [e]; simp : x ∈ innerOf C corner)
    have hy := mem_inner.mp (by rw [e]; simp : y ∈ innerOf C corner)
    have := h x y hx.1 hx.2 hy.1 hy.2
    subst this
    simp at nd
/-- what is said of some of a context may be said of all -/
theorem row_ext {ring : Bool} {corner C : List Nat} (c3 : 3 ≤ corner.length) (hn : C.Nodup) {u : Nat → Nat} {p : Nat → Bool} (low : ∀ k ∈ C, p k = true → u k ≤ capR corner k) (hs : ring = false → (((innerOf C corner).filter p).map u).sum ≤ 1)
    (hcase : One corner C ∨ ∃ y ∈ C, y ∈ corner ∧ p y = false) : ∃ h', RP ring corner C h' ∧ ∀ k ∈ C, p k = true → h' k = u k := by
  rcases hcase with one | ⟨y, hyC, hyc, hyp⟩
  · refine ⟨fun k => if p k = true then u k else 0, ⟨fun k hk => ?_, ?_⟩, fun k hk q => if_pos q⟩
    · show (if p k = true then u k else 0) ≤ capR corner k
      split
      · exact low k hk ‹_›
      · exact Nat.zero_le _
    · cases ring with
      | true =>
        rw [if_pos rfl]
        intro a b e
        rcases one_inner hn one with q | ⟨x, q⟩ <;> rw [q] at e <;> simp at e
      | false =>
        rw [if_neg (by decide), sum_filter_zero]
        have := hs rfl
        rcases one_inner hn one with q | ⟨x, q⟩
        · rw [q]
          exact .inr ⟨rfl, by show 0 < _; omega⟩
        · rw [q] at this ⊢
          rcases Nat.lt_or_ge ((([x].filter p).map u).sum) 1 with z | z
          · exact .inr ⟨by omega, by show 1 < _; omega⟩
          · exact .inl (by omega)
  · have hin : y ∈ innerOf C corner := mem_inner.mpr ⟨hyC, hyc⟩
    have nd := inner_nodup (corner := corner) hn
    let u0 : Nat → Nat := fun k => if p k = true then u k else 0
    have u0cap : ∀ k ∈ C, u0 k ≤ capR corner k := fun k hk => by
      show (if p k = true then u k else 0) ≤ capR corner k
      split
      · exact low k hk ‹_›
      · exact Nat.zero_le _
    have build : ∀ v : Nat, v ≤ 1 → (∀ h' : Nat → Nat, h' y = v → (∀ k, k ≠ y → h' k = u0 k) → (if ring = true then ∀ a b, innerOf C corner = [a, b] → ((!decide (h' a = h' b)) = tiedB corner a b) else ((innerOf C corner).map h').sum = 1 ∨ (((innerOf C corner).map h').sum = 0 ∧ (innerOf C corner).length < corner.length - 1))) →
        ∃ h', RP ring corner C h' ∧ ∀ k ∈ C, p k = true → h' k = u k := fun v hv hw => by
      refine ⟨fun k => if k = y then v else u0 k, ⟨fun k hk => ?_, hw _ (if_pos rfl) fun k hk => if_neg hk⟩, fun k hk q => ?_⟩
      · show (if k = y then v else u0 k) ≤ capR corner k
        split
        · rename_i e
          rw [e, cap_in hyc]; exact hv
        · exact u0cap k hk
      · have : k ≠ y := fun e => by rw [e, hyp] at q; cases q
        show (if k = y then v else u0 k) = u k
        rw [if_neg this]
        exact if_pos q
    cases ring with
    | false =>
      have hT : (((innerOf C corner).erase y).map u0).sum ≤ 1 := by
        have h1 := sum_erase (f := u0) hin
        have h2 : ((innerOf C corner).map u0).sum = (((innerOf C corner).filter p).map u).sum := sum_filter_zero
        have := hs rfl
        omega
      refine build (1 - (((innerOf C corner).erase y).map u0).sum) (by omega) fun h' e1 e2 => ?_
      rw [if_neg (by decide)]
      refine .inl ?_
      rw [sum_erase hin, e1]
      have : ((innerOf C corner).erase y).map h' = ((innerOf C corner).erase y).map u0 := List.map_congr_left fun k hk => e2 k fun z => by
        rw [z] at hk
        exact (List.Nodup.not_mem_erase nd) hk
      rw [this]
      omega
    | true =>
      by_cases hp : ∃ a b, innerOf C corner = [a, b]
      · obtain ⟨a, b, e⟩ := hp
        rw [e] at nd hin
        have hab : a ≠ b := by
          intro z
          rw [z] at nd
          simp at nd
        have ha : a ∈ C := (mem_inner.mp (by rw [e]; simp : a ∈ innerOf C corner)).1
        have hb : b ∈ C := (mem_inner.mp (by rw [e]; simp : b ∈ innerOf C corner)).1
        have key : ∀ z, z ∈ C → z ≠ y → (∀ h' : Nat → Nat, ((!decide (h' a = h' b)) = tiedB corner a b) ↔ ((!decide (h' y = h' z)) = tiedB corner a b)) → ∃ h', RP true corner C h' ∧ ∀ k ∈ C, p k = true → h' k = u k := fun z hz hzy sym => by
          have hz1 := u0cap z hz
          have hz2 := cap_one corner z
          refine build (if tiedB corner a b = true then 1 - u0 z else u0 z) (by split <;> omega) fun h' e1 e2 => ?_
          rw [if_pos rfl]
          intro a' b' e'
          rw [e] at e'
          injection e' with w1 w2
          injection w2 with w2 _
          subst w1 w2
          rw [sym h', e1, e2 z hzy]
          cases tiedB corner a b with
          | true =>
            rw [if_pos rfl]
            have : ¬ (1 - u0 z = u0 z) := by omega
            simp [this]
          | false => simp
        rcases List.mem_cons.mp hin with q | q
        · exact key b hb (by rw [q]; exact fun z => hab z.symm) fun h' => by rw [q]
        · rw [List.mem_singleton] at q
          refine key a ha (by rw [q]; exact hab) fun h' => ?_
          rw [q]
          have : decide (h' a = h' b) = decide (h' b = h' a) := decide_eq_decide.mpr ⟨Eq.symm, Eq.symm⟩
          rw [this]
      · refine build 0 (Nat.zero_le _) fun h' _ _ => ?_
        rw [if_pos rfl]
        exact fun a b e => absurd ⟨a, b, e⟩ hp
structure PGood (w : Wd) (s : Su) : Prop where
  has : w.Has s
  fits : ∀ i j, i < w.2.length → j < w.2.length → fitsB w s i j = true
  ext : ext w s = []
section
variable {w : Wd} {s : Su} {ring : Bool} {corner : List Nat} {fs : List (List Nat)} (h : PW w s ring corner fs)
include h
theorem PW.ok : w.Ok := by
  have := pw_ok h.sz h.pl
  rw [← h.ctx] at this
  exact this
theorem PW.rowE {i : Nat} (hi : i < w.2.length) : rowAt s i = rowP ring w corner i := by
  unfold rowAt
  rw [h.rows, List.getD_eq_getElem?_getD, List.getElem?_map, List.getElem?_range hi]; rfl
theorem PW.inR {i : Nat} (hi : i < w.2.length) : lotAt w i ∈ rid (fs.map srt) w.1.length := by rw [← h.ctx]; exact lotM hi
theorem PW.lnd {i : Nat} (hi : i < w.2.length) : (lotAt w i).Nodup := asc_nodup (h.ok.asc _ (lotM hi))
theorem PW.row {i : Nat} (hi : i < w.2.length) {f : Nat → Nat} : (lotAt w i).map f ∈ rowAt s i ↔ RP ring corner (lotAt w i) f := by
  rw [h.rowE hi]
  exact row_iff h.sz.each fun k hk => h.ok.lt _ (lotM hi) k hk
theorem PW.few {i : Nat} (hi : i < w.2.length) : (secs w.1 (lotAt w i)).length < 64 := by
  rw [secs_len]
  obtain ⟨y, hy, hyC⟩ := h.pl.out h.nd h.c3 (h.inR hi)
  have hlt := h.ok.lt _ (lotM hi)
  have hlen : (lotAt w i).length + 1 ≤ w.1.length := by
    have := nodup_sub_len (l := y :: lotAt w i) (m := List.range w.1.length) (List.nodup_cons.mpr ⟨hyC, h.lnd hi⟩) fun x hx => by
      rcases List.mem_cons.mp hx with rfl | hx
      · exact List.mem_range.mpr (h.lt _ hy)
      · exact List.mem_range.mpr (hlt x hx)
    rwa [List.length_range, List.length_cons] at this
  rcases h.sz.2 with ⟨er, hl⟩ | ⟨hl, j, hj, er⟩
  · rw [prod_two fun k hk => by
      have := hlt k hk
      rw [List.getD_eq_getElem?_getD, er, List.getElem?_replicate, if_pos this]; rfl]
    have : 2 ^ (lotAt w i).length ≤ 2 ^ 5 := Nat.pow_le_pow_right (by decide) (by omega)
    omega
  · have := prod_three (f := fun k => w.1.getD k 0) (j := j) (h.lnd hi) (fun k hk hkj => by
      have := hlt k hk
      rw [List.getD_eq_getElem?_getD, er, List.getElem?_set_ne (Ne.symm hkj), List.getElem?_replicate, if_pos this]; rfl) (by
      show w.1.getD j 0 ≤ 3
      rw [List.getD_eq_getElem?_getD, er, List.getElem?_set_self (by rw [List.length_replicate]; exact hj)]
      exact Nat.le_refl 3)
    have : 2 ^ (lotAt w i).length ≤ 2 ^ 4 := Nat.pow_le_pow_right (by decide) (by omega)
    omega
theorem PW.con : Con w.2 s := by
  intro i j hi hj f hf
  by_cases e : i = j
  · subst e
    exact ⟨f, hf, fun _ _ _ => rfl⟩
  · have hf' := (h.row hi).mp hf
    have ne : lotAt w j ≠ lotAt w i := fun z => e (lot_inj h.ok hi hj z.symm)
    obtain ⟨h', r1, r2⟩ := row_ext (ring := ring) (corner := corner) (C := lotAt w j) h.c3 (h.lnd hj) (u := f) (p := fun k => decide (k ∈ lotAt w i)) (fun k _ q => hf'.1 k (by simpa using q)) (fun er => by
      have h2 := hf'.2
      rw [if_neg (by rw [er]; decide)] at h2
      have : (((innerOf (lotAt w j) corner).filter fun k => decide (k ∈ lotAt w i)).map f).sum ≤ ((innerOf (lotAt w i) corner).map f).sum :=
        sum_sub ((inner_nodup (h.lnd hj)).filter _) fun x hx => by
          obtain ⟨h5, h6⟩ := List.mem_filter.mp hx
          exact mem_inner.mpr ⟨by simpa using h6, (mem_inner.mp h5).2⟩
      rcases h2 with q | ⟨q, _⟩ <;> omega) (by
      rcases h.pl.apart h.nd h.c3 (h.inR hj) (h.inR hi) ne with q | ⟨y, q1, q2, q3⟩
      · exact .inl q
      · exact .inr ⟨y, q1, q2, by simpa using q3⟩)
    exact ⟨h', (h.row hj).mpr r1, fun x hx hx' => r2 x hx' (by have : x ∈ lotAt w i := hx; simpa using this)⟩
theorem PW.has : w.Has s := by
  refine ⟨h.ok, ?_, ⟨by rw [h.rows, List.length_map, List.length_range], fun i hi hi' => ?_⟩⟩
  · rw [h.ctx]
    have := rid_len (fs.map srt) w.1.length
    rw [List.length_map] at this
    have := h.sz.len
    have hc : corner.length ≤ w.1.length := by
      have := nodup_sub_len (m := List.range w.1.length) h.nd fun x hx => List.mem_range.mpr (h.lt x hx)
      rwa [List.length_range] at this
    rcases h.pl.len with q | q <;> omega
  · have e1 : s[i] = rowAt s i := by
      unfold rowAt
      rw [List.getD_eq_getElem?_getD, List.getElem?_eq_getElem hi]; rfl
    have e2 : w.2[i] = lotAt w i := by
      unfold lotAt
      rw [List.getD_eq_getElem?_getD, List.getElem?_eq_getElem hi']; rfl
    rw [e1, e2]
    have hs : (rowAt s i).Sublist (secs w.1 (lotAt w i)) := by
      rw [h.rowE hi']
      exact List.filter_sublist
    refine ⟨fun e0 => ?_, (cells_asc _).sublist hs, fun c hc => secs_cell.mp (hs.mem hc), by
      have := hs.length_le
      have := h.few hi'
      omega⟩
    have hcase : One corner (lotAt w i) ∨ ∃ y ∈ lotAt w i, y ∈ corner ∧ (fun _ : Nat => false) y = false := by
      rcases h.pl.cls (h.inR hi') with ⟨j, L, hL, hj, e, hb⟩ | q
      · obtain ⟨x, hx, _⟩ := base_two (ring := ring) h.nd h.c3 hj
        obtain ⟨h1, h2⟩ := (hb x).mpr hx
        exact .inr ⟨x, h1, h2, rfl⟩
      · exact .inl q
    obtain ⟨h', r1, _⟩ := row_ext (ring := ring) h.c3 (h.lnd hi') (u := fun _ => 0) (p := fun _ => false) (fun k _ q => nomatch q) (fun _ => by
      rw [List.filter_eq_nil_iff.mpr (fun _ _ => by decide)]
      exact Nat.zero_le _) hcase
    have := (h.row hi').mpr r1
    rw [e0] at this
    cases this
theorem sum_base {l : List Nat} (nd : l.Nodup) {y : Nat} (hy : y ∈ l) (g : Nat → Nat) {m : List Nat} (hm : m.Nodup) (hmem : ∀ x, x ∈ m ↔ x ∈ l ∧ x ≠ y) : (l.map g).sum = g y + (m.map g).sum := by
  rw [sum_erase (f := g) hy]
  have h1 : ((l.erase y).map g).sum ≤ (m.map g).sum := sum_sub (nd.erase y) fun x hx => by
    have hne : x ≠ y := fun z => by rw [z] at hx; exact (List.Nodup.not_mem_erase nd) hx
    exact (hmem x).mpr ⟨List.mem_of_mem_erase hx, hne⟩
  have h2 : (m.map g).sum ≤ ((l.erase y).map g).sum := sum_sub hm fun x hx => by
    obtain ⟨q1, q2⟩ := (hmem x).mp hx
    exact (List.mem_erase_of_ne q2).mpr q1
  omega
theorem PW.none {g : Nat → Nat} (hg : ∀ i, i < w.2.length → RP ring corner (lotAt w i) g) : False := by
  have at_base : ∀ j, j < corner.length → ∃ C, C.Nodup ∧ IsBase ring corner C j ∧ RP ring corner C g := fun j hj => by
    obtain ⟨C, hC, hb⟩ := h.pl.has_base h.nd h.c3 hj
    rw [← h.ctx] at hC
    obtain ⟨i, hi, rfl⟩ := lot_idx hC
    exact ⟨_, h.lnd hi, hb, hg i hi⟩
  have c3 := h.c3
  cases hr : ring with
  | true =>
    have c4 := h.c4 hr
    subst hr
    have pair : ∀ j, j < corner.length → (!decide (g (corner.getD (prevOf corner.length j) 0) = g (corner.getD j 0))) = tiedB corner (corner.getD (prevOf corner.length j) 0) (corner.getD j 0) := fun j hj => by
      obtain ⟨C, nd, hb, _, hw⟩ := at_base j hj
      rw [if_pos rfl] at hw
      have nI := inner_nodup (corner := corner) nd
      have pj := prev_lt hj
      have hne : corner.getD (prevOf corner.length j) 0 ≠ corner.getD j 0 := fun q => prev_ne hj (by omega) (nodup_getD h.nd pj hj q)
      have memI : ∀ x, x ∈ innerOf C corner ↔ x = corner.getD (prevOf corner.length j) 0 ∨ x = corner.getD j 0 := fun x => by
        rw [mem_inner, hb x, mem_ring]
      have hl2 : (innerOf C corner).length = 2 := by
        have h1 := nodup_sub_len (m := [corner.getD (prevOf corner.length j) 0, corner.getD j 0]) nI fun x hx => by simpa using (memI x).mp hx
        have h2 := nodup_sub_len (l := [corner.getD (prevOf corner.length j) 0, corner.getD j 0]) (m := innerOf C corner) (List.nodup_cons.mpr ⟨by rw [List.mem_singleton]; exact hne, by simp⟩) fun x hx => (memI x).mpr (by simpa using hx)
        simp at h1 h2
        omega
      obtain ⟨a, b, e⟩ : ∃ a b, innerOf C corner = [a, b] := by
        match innerOf C corner, hl2 with
        | [a, b], _ => exact ⟨a, b, rfl⟩
      have hw' := hw a b e
      have ha := (memI a).mp (by rw [e]; simp)
      have hb' := (memI b).mp (by rw [e]; simp)
      have hab : a ≠ b := by
        rw [e] at nI
        intro z
        rw [z] at nI
        simp at nI
      rcases ha with ha | ha
      · rcases hb' with hb' | hb'
        · exact absurd (ha.trans hb'.symm) hab
        · rw [← ha, ← hb']; exact hw'
      · rcases hb' with hb' | hb'
        · rw [← ha, ← hb', tied_comm]
          have : decide (g b = g a) = decide (g a = g b) := decide_eq_decide.mpr ⟨Eq.symm, Eq.symm⟩
          rw [this]
          exact hw'
        · exact absurd (ha.trans hb'.symm) hab
    have idx : ∀ j, j < corner.length → corner.idxOf (corner.getD j 0) = j := fun j hj => by
      rw [List.getD_eq_getElem?_getD, List.getElem?_eq_getElem hj]
      exact idxOf_at h.nd hj
    have h0 : 0 < corner.length := by omega
    have tied0 : tiedB corner (corner.getD (prevOf corner.length 0) 0) (corner.getD 0 0) = true := by
      unfold tiedB
      rw [idx _ (prev_lt h0), idx 0 h0, srt_comm, srt_two (Nat.zero_le _), decide_eq_true_eq]
      rfl
    have tiedS : ∀ j, j + 1 < corner.length → tiedB corner (corner.getD (prevOf corner.length (j + 1)) 0) (corner.getD (j + 1) 0) = false := fun j hj => by
      unfold tiedB
      rw [idx _ (prev_lt hj), idx _ hj]
      have : prevOf corner.length (j + 1) = j := by unfold prevOf; rw [if_neg (by omega)]; omega
      rw [this, srt_two (by omega), decide_eq_false_iff_not]
      intro q
      injection q with q1 q2
      injection q2 with q2 _
      omega
    have same : ∀ j, j < corner.length → g (corner.getD j 0) = g (corner.getD 0 0) := fun j => by
      induction j with
      | zero => intro _; rfl
      | succ j ih =>
        intro hj
        have hp := pair (j + 1) hj
        rw [tiedS j hj] at hp
        have e : prevOf corner.length (j + 1) = j := by unfold prevOf; rw [if_neg (by omega)]; omega
        rw [e] at hp
        have : g (corner.getD j 0) = g (corner.getD (j + 1) 0) := by simpa using hp
        rw [← this]
        exact ih (by omega)
    have hp := pair 0 h0
    rw [tied0] at hp
    have : g (corner.getD (prevOf corner.length 0) 0) ≠ g (corner.getD 0 0) := by simpa using hp
    exact this (same _ (prev_lt h0))
  | false =>
    subst hr
    have eq : ∀ j, j < corner.length → (corner.map g).sum = g (corner.getD j 0) + 1 := fun j hj => by
      obtain ⟨C, nd, hb, _, hw⟩ := at_base j hj
      rw [if_neg (by decide)] at hw
      have nI := inner_nodup (corner := corner) nd
      have memI : ∀ x, x ∈ innerOf C corner ↔ x ∈ corner ∧ x ≠ corner.getD j 0 := fun x => by
        rw [mem_inner, hb x, mem_star]
      have sb := sum_base h h.nd (getD_mem hj) g nI memI
      have lenI : (innerOf C corner).length = corner.length - 1 := by
        have e1 := sum_base h h.nd (getD_mem hj) (fun _ => 1) nI memI
        have c1 : ∀ l : List Nat, (l.map fun _ => 1).sum = l.length := fun l => by
          induction l with
          | nil => rfl
          | cons x l ih => rw [List.map_cons, List.sum_cons, ih, List.length_cons]; omega
        rw [c1, c1] at e1
        omega
      rcases hw with q | ⟨_, q⟩
      · omega
      · omega
    have h0 : 0 < corner.length := by omega
    have e0 := eq 0 h0
    have all : ∀ x ∈ corner, g x = g (corner.getD 0 0) := fun x hx => by
      obtain ⟨j, hj, e⟩ := List.mem_iff_getElem.mp hx
      have ej := eq j hj
      rw [List.getD_eq_getElem?_getD, List.getElem?_eq_getElem hj, Option.getD_some, e] at ej
      omega
    have sm : (corner.map g).sum = corner.length * g (corner.getD 0 0) := by
      rw [List.map_congr_left all]
      generalize g (corner.getD 0 0) = v
      clear all e0 eq at_base c3 h0
      induction corner with
      | nil => simp
      | cons x l ih => 
        have : ∀ l : List Nat, (l.map fun _ => v).sum = l.length * v := fun l => by
          induction l with
          | nil => simp
          | cons y l ih => rw [List.map_cons, List.sum_cons, ih, List.length_cons, Nat.add_mul]; omega
        exact this _
    rw [sm] at e0
    generalize g (corner.getD 0 0) = v at e0
    match v, e0 with
    | 0, e0 => simp at e0
    | v + 1, e0 =>
      have : 3 * (v + 1) ≤ corner.length * (v + 1) := Nat.mul_le_mul_right _ c3
      omega
theorem PW.good : PGood w s := by
  refine ⟨h.has, fun i j hi hj => h.con.fits h.has hi hj, ?_⟩
  apply Classical.byContradiction
  intro ne
  obtain ⟨g, hg⟩ := List.exists_mem_of_ne_nil _ ne
  unfold BT.ext at hg
  have hp := (isPoss_iff h.has).mp (List.mem_filter.mp hg).2
  exact h.none (g := fun k => g.getD k 0) fun i hi => (h.row hi).mp (hp i hi)
end
end BT

/-! ## text L12 -/
set_option Elab.async false
set_option linter.all false
set_option maxRecDepth 100000
set_option maxHeartbeats 1000000
/-! L12: the two halves of the law. -/
namespace DL
open PySem PySem.Spec PyProof.Rows L2
section
variable {X : Cx} {c : DL.Ctx} {ρ : Rho} {pos : Pos} {e a b : Expr} {P : Rho → Prop} {R : PyData → Prop} {rest : List Stmt}
/-- a def of the text is called, the arguments drawn -/
theorem e_calX {x : Str} {p : Pos} {es : List Expr} {ps : List Str} {k k' : Nat} {T : List PyData → (PyData → Prop) → Prop} {Qa : List PyData → Prop} {R : PyData → Prop} (C : Cal X.prog X.w X.K X.mg X.base x k ps (spD T)) (hr : Room k' X.A) (hk : k ≤ k')
    (ha : DA X c (e :: es) ρ Qa) (ht : ∀ ds, Qa ds → ∃ R', T ds R' ∧ ∀ d, R' d → R d) (hg : Gl X x := by rfl) (hdb : (x == ("__debug__" : Str)) = false := by decide) (he : starEach (e :: es) X.env = (false, eval e X.env) :: starEach es X.env := by rfl) (hpl : (backTo pos (starEach es X.env)).any (·.1) = false := by rfl) :
    DE X c (.Call (.Name x p) (e :: es) [] pos) ρ R := fun σ H G S => by
  obtain ⟨f, fd, F, m, kp, b, _⟩ := C.ex
  refine tW_of (pe_call F (hr.mono hk) hg m kp b .nil pass0 paW hdb he hpl) (tWA_mono (ha σ H G S) fun vs H1 ⟨ds, G1, q, g, a⟩ => ?_)
  rw [List.append_nil]
  obtain ⟨R', t, m'⟩ := ht ds q
  exact ⟨G1, ds, R', g.e, a, t, fun v d G' H' r g' a' => ⟨d, G', m' d r, g.trans S.bag g'.any, a'⟩⟩
theorem d_notNone : OpD (fun x y H Q => y = V.non ∧ Q (.bl (!decide (x = V.non))) H) .none .none (fun d => d = .bool false) := fun b x y G H Qv e a1 a2 p => by
  cases a1; cases a2
  exact ⟨rfl, p.same e rfl (.bl false)⟩
end
end DL
namespace BT
open PySem PySem.Spec PyProof.Rows L2 DL
def T_smooth : PT := fun ds R => ds = [] ∧ R = fun d => d = .bool true
theorem sm_tns {l : List (List Nat)} (h : ∀ x ∈ l, x.length ≤ 6 ∧ ∀ k ∈ x, k < 64) (hl : l.length ≤ 64) : Sm (64 * (27 + 2) + 3) 2 (ttn l) := by
  refine sm_tuple 64 (fun d hd => ?_) (by rw [List.length_map]; exact hl)
  obtain ⟨x, hx, rfl⟩ := List.mem_map.mp hd
  exact sm_tn 6 (h x hx).1 fun k hk => by have := (h x hx).2 k hk; omega
theorem sm_str {x : Str} {B : Nat} (h : (PyData.str x).shown.length ≤ B) : Sm B 0 (.str x) := ⟨h, rfl, rfl, Nat.le_refl _⟩
theorem sm_nil : Sm 2 1 (.tuple []) := ⟨by decide +kernel, rfl, rfl, by decide⟩
theorem ext_small {w : Wd} {s : Su} (h : w.Ok) : ∀ x ∈ ext w s, x.length ≤ 6 ∧ ∀ k ∈ x, k < 64 := fun x hx => by
  have hg := (List.mem_filter.mp hx).1
  have e : globs w = cells w.1 := by unfold globs secs whole; rw [szs_range]
  rw [e] at hg
  obtain ⟨h1, h2⟩ := mem_cells.mp hg
  refine ⟨by rw [h1]; exact h.some.2, fun k hk => ?_⟩
  obtain ⟨i, hi, rfl⟩ := List.mem_iff_getElem.mp hk
  have := h2 i hi (by rw [← h1]; exact hi)
  have := (h.each _ (List.getElem_mem (by rw [← h1]; exact hi))).2
  omega
def dueS (l : List (List Nat)) : PyData := .list [.bool true, .tuple [], .str txE, ttn l]
theorem sm_due {l : List (List Nat)} (h : ∀ x ∈ l, x.length ≤ 6 ∧ ∀ k ∈ x, k < 64) (hl : l.length ≤ 64) : Sm 16000000 40 (dueS l) := by
  refine (sm_list (B := 2000) (k := 2) 4 (fun d hd => ?_) (by simp)).mono (by decide) (by decide)
  have hd' : d = .bool true ∨ d = .tuple [] ∨ d = .str txE ∨ d = ttn l := by simpa using hd
  rcases hd' with rfl | rfl | rfl | rfl
  · exact (sm_bool true).mono (by decide) (by decide)
  · exact sm_nil.mono (by decide) (by decide)
  · exact (sm_str (B := 100) (by decide +kernel)).mono (by decide) (by decide)
  · exact (sm_tns h hl).mono (by decide) (Nat.le_refl _)
section
variable {P : Program} {w : World} {K : PySem.W.Frag} {mg : Str → Option Value} {base : Heap}
theorem secs_ne {w : Wd} (h : w.Ok) {C : List Nat} (hC : C ∈ w.2) : secs w.1 C ≠ [] := by
  intro e
  have := congrArg List.length e
  rw [secs_len] at this
  have h1 : 1 ≤ prod (C.map fun k => w.1.getD k 0) := prod_pos fun s hs => by
    have := (szs_sub (h.asc C hC) (h.lt C hC)).mem hs
    have := h.each s this
    omega
  rw [List.length_nil] at this
  omega
theorem p__law_smooth (D : DefAt K mg "_law_smooth" s__law_smooth) (B : Nb mg) (C1 : Cal P w K mg base "_law_tree_world" 4 ["_law_bag_here"] (spB T_tree_world)) (C2 : Cal P w K mg base "_law_some_cells" 3 ["_law_bag_here", "_law_cells_here", "_law_often"] (spB T_some_cells)) (C3 : Cal P w K mg base "_law_sections" 2 ["_law_world", "_law_spot"] (spD T_sections))
    (C4 : Cal P w K mg base "_law_any" 2 ["_law_bag_here", "_law_some"] (spB T_any)) (C5 : Cal P w K mg base "_law_shrunk" 2 ["_law_world", "_law_rows"] (spD T_shrunk)) (C6 : Cal P w K mg base "_law_of_wholes" 2 ["_law_world", "_law_wholes"] (spD T_of_wholes)) (C7 : Cal P w K mg base "_law_cells" 1 ["_law_sizes"] (spD T_cells))
    (C8 : Cal P w K mg base "_law_possible" 2 ["_law_world", "_law_rows"] (spD T_possible)) (C9 : Cal P w K mg base "is_consistent" 8 ["scenario", "support"] (spD T_is_consistent)) (C10 : CalK P w K mg base "non_extending" 8 ["scenario", "support"] ["support", "scenario"] (spD T_non_extending) sw2 sw2) (C11 : Cal P w K mg base "contextuality_of" 8 ["scenario", "support"] (spD T_contextuality_of))
    (C12 : Cal P w K mg base "extending" 8 ["scenario", "support"] (spD T_extending)) (C13 : Cal P w K mg base "extension" 8 ["scenario", "support", "context", "section"] (spD T_extension)) (C14 : Cal P w K mg base "_law_told" 1 ["_law_whole", "_law_arrow"] (spD T_told)) :
    CalG P w K mg base "_law_smooth" 9 ["_law_bag_here"] (spB T_smooth) := by
  refine fn_BG D c__law_smooth (fun ds R ⟨h, _⟩ => by rw [h]; rfl) (fun _ _ _ _ _ _ us hl => match us, hl with | [_], _ => rfl) fun f cdv A outer s H E G0 H0 b hgu hr ds R ⟨h1, h2⟩ => ?_
  subst h1 h2
  have hu := hr.units65
  refine s_set 1 (Q := fun d => ∃ w : Wd, d = wd w ∧ TW w) (e_calB 0 C1 hr (by decide) rfl a_nil (fun ds q => ⟨q, rfl⟩)) (fun d q => ?_) c__law_smooth.nd
  obtain ⟨wo, rfl, ht⟩ := q
  have hok := ht.ok.1
  have few := ht.ok.2
  refine s_own 2 o_nil (fun ds q => ?_) c__law_smooth.nd
  subst q
  refine s_for (xs := List.range wo.2.length) (enc := dn) (fun i ρ => ∃ (rs : Su) (x3 : Option Sl), rs.length = i ∧ (∀ k, k < i → (rowAt rs k).Sublist (secs wo.1 (lotAt wo k))) ∧ ρ = [some .bag, some (.dat (wd wo)), some (.own (rs.map ttn)), x3, none, none, none, none, none, none, none]) rfl
    (iv_range1 (v_len B.len (v_ixT (d := ttn wo.2) (i := 1) (e_var 1 rfl) e_int rfl) (.inr rfl) (List.length_map _)) (by omega) B.range) (tg_one (i := 3) c__law_smooth.nd rfl (Or.inr rfl)) (Nat.le_of_ble_eq_true rfl) (fun _ _ => trivial) PassesOwn.never ⟨[], none, rfl, fun k hk => by omega, rfl⟩ ?_ ?_
  · rintro i x ρ' hx ⟨rs, x3, hl, hrs, rfl⟩
    have hi : i < wo.2.length := by have := (List.getElem?_eq_some_iff.mp hx).1; simpa using this
    have hxi : x = i := by
      rw [List.getElem?_range hi] at hx
      exact (Option.some.inj hx).symm
    subst hxi
    have hm := lotM hi
    have hfew := ht.few hm
    refine s_append 2 (Q := fun d => ∃ m, d = ttn m ∧ m ≠ [] ∧ m.Sublist (secs wo.1 (lotAt wo x))) rfl (e_calB 0 C2 hr (by decide) rfl (a_cons (e_cal C3 hr (by decide) (a_dv (e_var 1 rfl) (a_dv (e_var 3 rfl) a_nil)) (fun ds q => ⟨⟨wo, x⟩, q, ⟨hok, hi⟩, rfl⟩)) (a_one (e_calB 0 C4 hr (by decide) rfl (a_dv (d := .tuple [dn 2, dn 4, dn 6]) (v_tup (a_dv e_int (a_dv e_int (a_dv e_int a_nil)))) a_nil) (fun ds q => ⟨[dn 2, dn 4, dn 6], _, q, .inr rfl, by simp, by simp, rfl⟩))))
      (fun ds ⟨d1, r, q1, q2, d2, q3, q4⟩ => by
        obtain ⟨o, rfl⟩ : ∃ o : Nat, d2 = dn o := by
          have : d2 = dn 2 ∨ d2 = dn 4 ∨ d2 = dn 6 := by simpa using q4
          rcases this with e | e | e <;> exact ⟨_, e⟩
        exact ⟨secs wo.1 (lotAt wo x), o, by rw [q1, q2, q3], secs_ne hok hm, by omega, rfl⟩)) (by rw [List.length_map]; omega) (fun d q => ?_)
    obtain ⟨m, rfl, hm1, hm2⟩ := q
    refine s_nil ⟨rs ++ [m], some (.dat (dn x)), by rw [List.length_append, hl]; rfl, fun k hk => ?_, by rw [List.map_append]; rfl⟩
    by_cases e : k < x
    · have := hrs k e
      unfold rowAt at this ⊢
      rw [List.getD_eq_getElem?_getD, List.getElem?_append_left (by omega), ← List.getD_eq_getElem?_getD]
      exact this
    · have : k = x := by omega
      subst this
      unfold rowAt
      rw [List.getD_eq_getElem?_getD, List.getElem?_append_right (by omega), hl, Nat.sub_self]
      exact hm2
  rintro ρ' ⟨rs, x3, hl, hrs, rfl⟩
  rw [List.length_range] at hl hrs
  have hsub : BT.Sub wo rs := ⟨hl, hrs⟩
  refine s_freeze 2 rfl ?_
  refine s_setV 4 (d := ll (shrN wo.2 64 rs)) (e_cal C5 hr (by decide) (a_dv (e_var 1 rfl) (a_dv (e_var 2 rfl) a_nil)) (fun ds q => ⟨⟨wo, rs⟩, q, hsub.rows ht, rfl⟩)) ?_ c__law_smooth.nd
  have hgood := shrunk_good ht hsub
  have hkl : (shrN wo.2 64 rs).length ≤ 100 := by rw [(shrN_sub (ctx := wo.2) 64 rs).1, hl]; omega
  generalize shrN wo.2 64 rs = kept at hgood hkl ⊢
  refine s_if (Q := fun k => k = !decide ((kept.filter fun r => decide (r = [])) = [])) (P1 := fun ρ => ∃ (s : Su) (x3 x4 x5 : Option Sl), Good wo s ∧ ρ = [some .bag, some (.dat (wd wo)), some (.dat (tttn s)), x3, x4, x5, none, none, none, none, none])
    (t_is (t_neE (enc := ll) (x := kept.filter fun r => decide (r = [])) (y := []) hr.units pl_ll (by decide) (fun _ _ => ll_inj) (v_lst (o_flt1 5 c__law_smooth (xs := kept) (enc := ltn) (iv_list (e_var 4 rfl)) (by omega) (p := fun r => decide (r = [])) (f := ltn)
      (fun r hr' _ _ _ _ _ => ts_one (t_is (t_eqE (enc := ltn) (x := r) (y := []) hr.units pl_ltn (by decide) (fun _ _ => ltn_inj) (e_var 5 rfl) (DO.dv o_nil)) (by congr))) (fun r hr' q _ _ _ _ _ => e_var 5 rfl)) rfl) (DO.dv o_nil)) (by congr)) (fun q => ?_) (fun q => ?_) ?_
  · have hcnt : ∀ j, (cells (wo.1.take j)).length ≤ 64 := fun j => by
      rw [cells_count]
      exact Nat.le_trans (prod_take _ _ fun s hs => by have := hok.each s hs; omega) hok.prod
    have hc0 : cells wo.1 ≠ [] := by
      intro e
      have := congrArg List.length e
      rw [cells_count] at this
      have := prod_pos (l := wo.1) fun s hs => by have := hok.each s hs; omega
      rw [List.length_nil] at *
      omega
    have hc1 := hcnt wo.1.length
    rw [List.take_length] at hc1
    have hs6 := hok.some.2
    refine s_set 2 (Q := fun d => ∃ s : Su, d = tttn s ∧ Good wo s) (e_calX C6 hr (by decide) (a_cons (e_var 1 rfl) (a_one (e_calB 0 C2 hr (by decide) rfl (a_dv (d := ltn (cells wo.1)) (e_cal C7 hr (by decide) (a_dv (v_ixT (d := tn wo.1) (i := 0) (e_var 1 rfl) e_int rfl) a_nil) (fun ds q => ⟨wo.1, _, q, .inl rfl, fun j => Nat.le_trans (hcnt j) (by decide), fun s hs => (hok.each s hs).2, by omega, rfl⟩)) (a_dv e_int a_nil)) (fun ds q => ⟨cells wo.1, 3, q, hc0, by omega, rfl⟩))))
      (fun ds ⟨d, r, e1, e2, d2, e3, m, e4, q2, q3⟩ => ⟨_, ⟨⟨wo, m⟩, by rw [e1, e2, e3, e4], ⟨hok, by show wo.2.length ≤ 100; omega, by have := q3.length_le; show m.length ≤ 1000; omega, fun g hg => by show g.length = wo.1.length; exact cells_length (q3.mem hg)⟩, rfl⟩, fun d q => ⟨_, q, wholes_good ht (fun g hg => q3.mem hg) q2⟩⟩)) (fun d q => ?_) c__law_smooth.nd
    obtain ⟨s, rfl, hs⟩ := q
    exact s_nil ⟨s, _, _, _, hs, rfl⟩
  · have hne : ∀ r ∈ kept, r ≠ [] := fun r hr' e => by
      have hq : (kept.filter fun r => decide (r = [])) = [] := by simpa using q.symm
      rw [List.filter_eq_nil_iff] at hq
      exact hq r hr' (by simpa using e)
    refine s_setV 2 (d := tttn kept) (v_tupL B.tuple (v_lst (o_map1 5 c__law_smooth (xs := kept) (enc := ltn) (iv_list (e_var 4 rfl)) (by omega) (f := ttn) (fun r hr' _ _ _ _ _ => v_tupL B.tuple (e_var 5 rfl))) rfl)) (s_nil ⟨kept, _, _, _, hgood hne, rfl⟩) c__law_smooth.nd
  rintro ρ' ⟨s, x3, x4, x5, hg, rfl⟩
  have hhas := hg.has
  have hsl := hhas.sup.len
  have hlo := hg.lonely
  have hpe := poss_ext hhas
  have hel := ext_len (s := s) hok
  have hsm := ext_small (s := s) hok
  refine s_setV 6 (d := dueS (ext wo s)) (v_lstO (o_lst (Q := fun ds => ds = [.bool true, .tuple [], .str txE, ttn (ext wo s)]) (a_dv e_bl (a_dv (v_tup a_nil) (a_dv e_str (a_dv (v_is (v_tupL B.tuple (e_cal C8 hr (by decide) (a_dv (e_var 1 rfl) (a_dv (e_var 2 rfl) a_nil)) (fun ds q => ⟨⟨wo, s⟩, q, ⟨hok, hsl, by show s.length ≤ 100; omega⟩, rfl⟩))) (by rw [← hpe]; rfl)) a_nil)))) (fun ds q => by rw [q]; exact Nat.le_of_ble_eq_true rfl)) rfl) ?_ c__law_smooth.nd
  refine s_setV 7 (d := .list [.bool true, .tuple [], .str txE]) (v_lstO (o_lst (Q := fun ds => ds = [.bool true, .tuple [], .str txE]) (a_dv (e_cal C9 hr (by decide) (a_dv (e_var 1 rfl) (a_dv (e_var 2 rfl) a_nil)) (fun ds q => ⟨⟨wo, s⟩, q, ⟨hhas, hg.fits⟩, rfl⟩))
    (a_dv (v_is (e_calK C10 hr (by decide) (k_dv (e_var 2 rfl) (k_dv (e_var 1 rfl) k_nil)) (R := fun d => d = .tuple ((lonely wo s).map prd)) (fun G zs ds q a => by
        subst q
        cases a with
        | cons a1 t => cases t with
          | cons a2 t => cases t with
            | nil => exact ⟨[wd wo, tttn s], .cons a2 (.cons a1 .nil), ⟨wo, s⟩, rfl, hhas, rfl⟩)) (by rw [hlo]; rfl))
    (a_dv (v_is (e_cal C11 hr (by decide) (a_dv (e_var 1 rfl) (a_dv (e_var 2 rfl) a_nil)) (fun ds q => ⟨⟨wo, s⟩, q, ⟨hhas, .inr hlo⟩, rfl⟩)) (show PyData.str (if ext wo s = [] then txS else txE) = .str txE by rw [if_neg hg.ext])) a_nil))) (fun ds q => by rw [q]; exact Nat.le_of_ble_eq_true rfl)) rfl) ?_ c__law_smooth.nd
  refine s_ifF (t_is (t_or (k1 := false) (k2 := false) (t_is (t_cmp op_ne (v_repr hgu hr.units B.repr (v_is (v_cat (e_var 7 rfl) (DO.dv (o_lst (Q := fun ds => ds = [ttn (ext wo s)]) (a_dv (e_cal C12 hr (by decide) (a_dv (e_var 1 rfl) (a_dv (e_var 2 rfl) a_nil)) (fun ds q => ⟨⟨wo, s⟩, q, hhas, rfl⟩)) a_nil) (fun ds q => by rw [q]; exact Nat.le_of_ble_eq_true rfl))) (Nat.le_of_ble_eq_true rfl)) (show PyData.list _ = dueS (ext wo s) from rfl)) (sm_due hsm hel) (.inl ⟨_, rfl⟩)) (v_repr hgu hr.units B.repr (e_var 6 rfl) (sm_due hsm hel) (.inl ⟨_, rfl⟩)) (fun d1 d2 q1 q2 => by rw [q1, q2]; exact d_neS) b_id) (by simp))
    (fun _ => t_is (t_eqE (enc := ttn) (x := ext wo s) (y := []) hr.units pl_ttn (by decide) (fun _ _ => ttn_inj) (v_ixL (i := 3) (d := ttn (ext wo s)) (e_var 6 rfl) e_int rfl) (v_tup a_nil)) (decide_eq_false hg.ext))) rfl) ?_
  refine s_for (xs := List.range s.length) (enc := dn) (fun i ρ => ∃ y3 y8 y9 y10, ρ = [some .bag, some (.dat (wd wo)), some (.dat (tttn s)), y3, x4, x5, some (.dat (dueS (ext wo s))), some (.dat (.list [.bool true, .tuple [], .str txE])), y8, y9, y10]) rfl
    (iv_range1 (v_len B.len (e_var 2 rfl) (.inr rfl) (List.length_map _)) (by omega) B.range) (tg_one (i := 3) c__law_smooth.nd rfl (Or.inr rfl)) (Nat.le_of_ble_eq_true rfl) (fun _ _ => trivial) PassesOwn.never ⟨x3, none, none, none, rfl⟩ ?_ (fun ρ' ⟨y3, y8, y9, y10, e⟩ => by subst e; exact s_ret e_bl)
  rintro i x ρ' hx ⟨y3, y8, y9, y10, rfl⟩
  have hxl : x < s.length := List.mem_range.mp (List.mem_of_getElem? hx)
  have hxw : x < wo.2.length := by omega
  refine s_for (xs := rowAt s x) (enc := tn) (fun i ρ => ∃ y8 y9 y10, ρ = [some .bag, some (.dat (wd wo)), some (.dat (tttn s)), some (.dat (dn x)), x4, x5, some (.dat (dueS (ext wo s))), some (.dat (.list [.bool true, .tuple [], .str txE])), y8, y9, y10]) rfl
    (iv_tup (v_at (l := s) (enc := ttn) (e_var 2 rfl) (e_var 3 rfl) (rowGet hxl))) (tg_one (i := 8) c__law_smooth.nd rfl (Or.inr rfl)) (Nat.le_of_ble_eq_true rfl) (fun _ _ => trivial) PassesOwn.never ⟨_, _, _, rfl⟩ ?_ (fun ρ' ⟨y8, y9, y10, e⟩ => by subst e; exact s_nil ⟨_, _, _, _, rfl⟩)
  rintro j cl ρ' hcl ⟨y8, y9, y10, rfl⟩
  have hcm : cl ∈ rowAt s x := List.mem_of_getElem? hcl
  have hne := hg.exts x hxw cl hcm
  obtain ⟨g0, r0, he⟩ : ∃ g r, exts wo s x cl = g :: r := by
    cases h : exts wo s x cl with
    | nil => exact absurd h hne
    | cons g r => exact ⟨g, r, rfl⟩
  have hg0 : g0 ∈ exts wo s x cl := by rw [he]; exact List.mem_cons_self
  have hg1 : g0 ∈ ext wo s := (List.mem_filter.mp hg0).1
  have hlx := Wd.Ok.lotM (w := wo) hxw
  have l6 := hok.lotLen hlx.1
  have hlt := hok.lt _ hlx.1
  have htell : told g0 (lotAt wo x) = cl := by
    have := (List.mem_filter.mp hg0).2
    unfold tellB whole at this
    rw [part_whole hlt] at this
    simpa using this
  refine s_setV 9 (d := tn g0) (v_is (e_cal C13 hr (by decide) (a_dv (e_var 1 rfl) (a_dv (e_var 2 rfl) (a_dv (e_var 3 rfl) (a_dv (e_var 8 rfl) a_nil)))) (fun ds q => ⟨⟨wo, s, x, cl⟩, q, ⟨hhas, hxw, hcm⟩, rfl⟩)) (show headD (exts wo s x cl) = tn g0 by rw [he]; rfl)) ?_ c__law_smooth.nd
  have smT : ∀ g ∈ ext wo s, Sm 16000000 40 (tn g) := fun g hg' => (sm_tn 6 (hsm g hg').1 fun k hk => by have := (hsm g hg').2 k hk; omega).mono (by decide) (by decide)
  refine s_ifF (t_is (t_cmp op_notIn_seq (v_repr hgu hr.units B.repr (e_var 9 rfl) (smT g0 hg1) (.inr ⟨_, rfl⟩)) (v_lst (ds' := (((ext wo s).filter fun g => decide (told g (lotAt wo x) = cl)).map fun g => (tn g).shown).map PyData.str) (o_flt1 10 c__law_smooth (xs := ext wo s) (enc := tn) (iv_tup (v_ixL (i := 3) (d := ttn (ext wo s)) (e_var 6 rfl) e_int rfl)) (by omega) (p := fun g => decide (told g (lotAt wo x) = cl)) (f := fun g => .str (tn g).shown)
    (fun g hg' _ _ _ _ _ => ts_one (t_is (t_eqE (enc := tn) (x := told g (lotAt wo x)) (y := cl) hr.units pl_tn (by decide) (fun _ _ => tn_inj) (e_cal C14 (hr.mono (by decide)) (Nat.le_refl _) (a_dv (e_var 10 rfl) (a_dv (v_at (l := wo.2) (enc := tn) (v_ixT (d := ttn wo.2) (i := 1) (e_var 1 rfl) e_int rfl) (e_var 3 rfl) hlx.2) a_nil)) (fun ds q => ⟨⟨g, lotAt wo x⟩, q, ⟨fun k hk => by show k < g.length; rw [globs_len (List.mem_filter.mp hg').1]; exact hlt k hk, Nat.le_trans l6 (by decide)⟩, rfl⟩)) (e_var 8 rfl)) (by congr)))
    (fun g hg' q _ _ _ _ _ => v_repr hgu hr.units B.repr (e_var 10 rfl) (smT g hg') (.inr ⟨_, rfl⟩))) (by rw [List.map_map]; rfl)) (fun d1 d2 q1 q2 => by rw [q1, q2]; exact d_notInS) b_id) ?_) (s_nil ⟨_, _, _, rfl⟩)
  have : (tn g0).shown ∈ (((ext wo s).filter fun g => decide (told g (lotAt wo x) = cl)).map fun g => (tn g).shown) := List.mem_map.mpr ⟨g0, List.mem_filter.mpr ⟨hg1, by simpa using htell⟩, rfl⟩
  simp [this]
end
end BT

/-! ## text L13 -/
set_option Elab.async false
set_option linter.all false
set_option maxRecDepth 100000
set_option maxHeartbeats 1000000
/-! L13: the tied half. -/
namespace BT
open PySem PySem.Spec PyProof.Rows L2 DL
theorem PGood.exts {w : Wd} {s : Su} (h : PGood w s) (i : Nat) (c : List Nat) : exts w s i c = [] := by
  unfold BT.exts
  rw [h.ext]; rfl
theorem PGood.lonely1 {w : Wd} {s : Su} (h : PGood w s) (p : List (List Nat) × Nat) : lonely1 w s p = p.1.map fun c => (p.2, c) := by
  unfold BT.lonely1
  rw [List.filter_eq_self.mpr fun c _ => by rw [h.exts]; rfl]
theorem lonely_small {w : Wd} {s : Su} (h : w.Has s) : ∀ p ∈ lonely w s, p.1 < 100 ∧ p.2.length ≤ 6 ∧ ∀ k ∈ p.2, k < 64 := fun p hp => by
  obtain ⟨q, hq, hp⟩ := List.mem_flatMap.mp hp
  unfold BT.lonely1 at hp
  obtain ⟨c, hc, rfl⟩ := List.mem_map.mp hp
  obtain ⟨h5, h6⟩ := List.mem_zipIdx' hq
  have hl := h.sup.len
  have hi : q.2 < w.2.length := by omega
  have hr := (h.row hi).2
  rw [List.getElem?_eq_getElem h5, ← h6] at hr
  have hcm : c ∈ rowAt s q.2 := by rw [← Option.some.inj hr]; exact (List.mem_filter.mp hc).1
  have hcell := (h.row hi).1.cell c hcm
  have := h.few
  refine ⟨by show q.2 < 100; omega, ?_, cell_lt hcell fun s hs => (h.ok.each s hs).2⟩
  rw [hcell.len]
  exact h.ok.lotLen (h.lot hi).1
theorem lonely_len {w : Wd} {s : Su} (h : w.Has s) (i : Nat) : ((s.zipIdx.take i).flatMap (lonely1 w s)).length ≤ 6400 := by
  have hl := h.sup.len
  have few := h.few
  have h5 := flat_len (M := 64) (lonely1 w s) (s.zipIdx.take i) fun p hp => by
    unfold BT.lonely1
    rw [List.length_map]
    obtain ⟨h5, h6⟩ := List.mem_zipIdx' (List.mem_of_mem_take hp)
    have := (h.row (i := p.2) (by omega)).1.few
    have hr := (h.row (i := p.2) (by omega)).2
    rw [List.getElem?_eq_getElem h5, ← h6] at hr
    rw [Option.some.inj hr]
    exact Nat.le_trans (List.length_filter_le _ _) (by omega)
  have h6 : (s.zipIdx.take i).length ≤ 100 := by rw [List.length_take, List.length_zipIdx]; omega
  have := Nat.mul_le_mul_right 64 h6
  omega
theorem sm_lonely {w : Wd} {s : Su} (h : w.Has s) : Sm 16000000 40 (.tuple ((lonely w s).map prd)) := by
  refine (sm_tuple (B := 2 * (27 + 2) + 3) (k := 2) 6400 (fun d hd => ?_) (by rw [List.length_map]; have := lonely_len h s.zipIdx.length; rw [List.take_length] at this; exact this)).mono (by decide) (by decide)
  obtain ⟨p, hp, rfl⟩ := List.mem_map.mp hd
  obtain ⟨h1, h2, h3⟩ := lonely_small h p hp
  refine sm_tuple (B := 27) (k := 1) 2 (fun d hd => ?_) (Nat.le_refl _)
  have hd' : d = dn p.1 ∨ d = tn p.2 := by simpa using hd
  rcases hd' with rfl | rfl
  · exact (sm_dn h1).mono (by decide) (by decide)
  · exact sm_tn 6 h2 fun k hk => by have := h3 k hk; omega
theorem d_eqS {x y : Str} : OpD rEq (.str x) (.str y) (fun d => d = .bool (decide (x = y))) := fun b u v G H Qv e a1 a2 p => by
  cases a1; cases a2
  refine ⟨rfl, ?_⟩
  have : decide (V.str x = V.str y) = decide (x = y) := by
    by_cases h : x = y
    · subst h; rw [decide_eq_true rfl, decide_eq_true rfl]
    · rw [decide_eq_false h, decide_eq_false (fun q => h (V.str.inj q))]
  rw [this]
  exact p.same e rfl (.bl _)
def dueT : PyData := .list [.bool true, .tuple [], .str txS]
theorem sm_dueT : Sm 16000000 40 dueT := by
  refine (sm_list (B := 100) (k := 1) 3 (fun d hd => ?_) (by simp)).mono (by decide) (by decide)
  have hd' : d = .bool true ∨ d = .tuple [] ∨ d = .str txS := by simpa using hd
  rcases hd' with rfl | rfl | rfl
  · exact (sm_bool true).mono (by decide) (by decide)
  · exact sm_nil.mono (by decide) (by decide)
  · exact (sm_str (B := 100) (by decide +kernel)).mono (by decide) (by decide)
section
variable {P : Program} {w : World} {K : PySem.W.Frag} {mg : Str → Option Value} {base : Heap}
theorem p__law_tied (D : DefAt K mg "_law_tied" s__law_tied) (B : Nb mg) (C1 : Cal P w K mg base "_law_planted" 4 ["_law_bag_here"] (spB T_planted)) (C2 : CalK P w K mg base "is_consistent" 8 ["scenario", "support"] ["support", "scenario"] (spD T_is_consistent) sw2 sw2) (C3 : Cal P w K mg base "extending" 8 ["scenario", "support"] (spD T_extending))
    (C4 : CalK P w K mg base "contextuality_of" 8 ["scenario", "support"] ["support", "scenario"] (spD T_contextuality_of) sw2 sw2) (C5 : CalK P w K mg base "extension" 8 ["scenario", "support", "context", "section"] ["scenario", "support", "context", "section"] (spD T_extension) st0 st0) (C6 : Cal P w K mg base "non_extending" 8 ["scenario", "support"] (spD T_non_extending)) :
    CalG P w K mg base "_law_tied" 9 ["_law_bag_here"] (spB T_smooth) := by
  refine fn_BG D c__law_tied (fun ds R ⟨h, _⟩ => by rw [h]; rfl) (fun _ _ _ _ _ _ us hl => match us, hl with | [_], _ => rfl) fun f cdv A outer s H E G0 H0 b hgu hr ds R ⟨h1, h2⟩ => ?_
  subst h1 h2
  refine s_unp 1 2 (Q := fun x y => ∃ w s, x = wd w ∧ y = tttn s ∧ PGood w s) (e_imp (e_calB 0 C1 hr (by decide) rfl a_nil (fun ds q => ⟨q, rfl⟩)) (fun d ⟨w, s, ring, corner, fs, q, hp⟩ => ⟨_, _, q, w, s, rfl, rfl, hp.good⟩))
    (tg_two (i := 1) (j := 2) rfl c__law_tied.nd rfl rfl (Or.inl rfl) (Or.inl rfl) (Or.inl rfl) (Or.inr rfl) rfl rfl) ⟨Nat.le_of_ble_eq_true rfl, Nat.le_of_ble_eq_true rfl⟩ (fun x y q => ?_)
  obtain ⟨wo, s, rfl, rfl, hg⟩ := q
  have hhas := hg.has
  have hsl := hhas.sup.len
  have few := hhas.few
  have swp : ∀ {T : PT} {R : PyData → Prop} (G : Hp) (zs : List V) (ds : List PyData), ds = [tttn s, wd wo] → AtAll G zs ds → T [wd wo, tttn s] R → ∃ ds', AtAll G (sw2 [] zs) ds' ∧ T ds' R := fun {T R} G zs ds q a t => by
    subst q
    cases a with
    | cons a1 t1 => cases t1 with
      | cons a2 t2 => cases t2 with
        | nil => exact ⟨[wd wo, tttn s], .cons a2 (.cons a1 .nil), t⟩
  refine s_setV 3 (d := dueT) (v_lstO (o_lst (Q := fun ds => ds = [.bool true, .tuple [], .str txS]) (a_dv e_bl (a_dv (v_tup a_nil) (a_dv e_str a_nil))) (fun ds q => by rw [q]; exact Nat.le_of_ble_eq_true rfl)) rfl) ?_ c__law_tied.nd
  refine s_setV 4 (d := dueT) (v_lstO (o_lst (Q := fun ds => ds = [.bool true, .tuple [], .str txS]) (a_dv (v_is (e_calK C2 hr (by decide) (k_dv (e_var 2 rfl) (k_dv (e_var 1 rfl) k_nil)) (R := fun d => d = .bool true) (fun G zs ds q a => swp G zs ds q a ⟨⟨wo, s⟩, rfl, ⟨hhas, hg.fits⟩, rfl⟩)) rfl)
    (a_dv (v_is (e_cal C3 hr (by decide) (a_dv (e_var 1 rfl) (a_dv (e_var 2 rfl) a_nil)) (fun ds q => ⟨⟨wo, s⟩, q, hhas, rfl⟩)) (show ttn (ext wo s) = .tuple [] by rw [hg.ext]; rfl))
    (a_dv (v_is (e_calK C4 hr (by decide) (k_dv (e_var 2 rfl) (k_dv (e_var 1 rfl) k_nil)) (R := fun d => d = .str (if ext wo s = [] then txS else txE)) (fun G zs ds q a => swp G zs ds q a ⟨⟨wo, s⟩, rfl, ⟨hhas, .inl hg.ext⟩, rfl⟩)) (by rw [if_pos hg.ext])) a_nil))) (fun ds q => by rw [q]; exact Nat.le_of_ble_eq_true rfl)) rfl) ?_ c__law_tied.nd
  refine s_ifF (t_is (t_cmp op_ne (v_repr hgu hr.units B.repr (e_var 4 rfl) sm_dueT (.inl ⟨_, rfl⟩)) (v_repr hgu hr.units B.repr (e_var 3 rfl) sm_dueT (.inl ⟨_, rfl⟩)) (fun d1 d2 q1 q2 => by rw [q1, q2]; exact d_neS) b_id) (by simp)) ?_
  refine s_setV 5 (v_lstO (ds' := []) o_nil rfl) ?_ c__law_tied.nd
  refine s_for (xs := List.range s.length) (enc := dn) (fun i ρ => ∃ y6 y7, ρ = [some .bag, some (.dat (wd wo)), some (.dat (tttn s)), some (.dat dueT), some (.dat dueT), some (.dat (.list (((s.zipIdx.take i).flatMap (lonely1 wo s)).map prd))), y6, y7]) rfl
    (iv_range1 (v_len B.len (e_var 2 rfl) (.inr rfl) (List.length_map _)) (by omega) B.range) (tg_one (i := 6) c__law_tied.nd rfl (Or.inr rfl)) (Nat.le_of_ble_eq_true rfl) (fun _ _ => trivial) PassesOwn.never ⟨none, none, rfl⟩ ?_ ?_
  · rintro i x ρ' hx ⟨y6, y7, rfl⟩
    have hi : i < s.length := by have := (List.getElem?_eq_some_iff.mp hx).1; simpa using this
    have hxi : x = i := by
      rw [List.getElem?_range hi] at hx
      exact (Option.some.inj hx).symm
    subst hxi
    have hxw : x < wo.2.length := by omega
    have hrow := (hhas.row hxw).1
    have hz : s.zipIdx[x]? = some (rowAt s x, x) := by
      rw [List.getElem?_zipIdx, rowGet hi]
      simp
    have hnext : (s.zipIdx.take (x + 1)).flatMap (lonely1 wo s) = (s.zipIdx.take x).flatMap (lonely1 wo s) ++ (rowAt s x).map fun c => (x, c) := by
      rw [List.take_add_one, hz, List.flatMap_append]
      congr 1
      simp only [Option.toList_some, List.flatMap_cons, List.flatMap_nil, List.append_nil]
      rw [hg.lonely1]
    have hlen := lonely_len hhas x
    have hf := hrow.few
    rw [hnext]
    generalize (s.zipIdx.take x).flatMap (lonely1 wo s) = acc at hlen ⊢
    refine s_setV 5 (d := .list ((acc ++ (rowAt s x).map fun c => (x, c)).map prd)) (v_is (v_cat (e_var 5 rfl) (v_lst (o_map1 7 c__law_tied (xs := rowAt s x) (enc := tn) (iv_tup (v_at (l := s) (enc := ttn) (e_var 2 rfl) (e_var 6 rfl) (rowGet hi))) (by omega) (f := fun c => prd (x, c)) (fun c hc _ _ _ _ _ => v_tup (a_dv (e_var 6 rfl) (a_dv (e_var 7 rfl) a_nil)))) rfl) (by rw [List.length_map, List.length_map]; omega)) (by rw [List.map_append, List.map_map]; rfl)) ?_ c__law_tied.nd
    obtain ⟨c0, hc0⟩ : ∃ c, (rowAt s x)[0]? = some c := by
      cases h : rowAt s x with
      | nil => exact absurd h hrow.ne
      | cons c r => exact ⟨c, rfl⟩
    refine s_ifF (t_cmp op_notN (v_is (e_calK C5 hr (by decide) (k_dv (e_var 1 rfl) (k_dv (e_var 2 rfl) (k_dv (e_var 6 rfl) (k_dv (d := tn c0) (v_at (l := rowAt s x) (enc := tn) (n := 0) (v_at (l := s) (enc := ttn) (e_var 2 rfl) (e_var 6 rfl) (rowGet hi)) e_int hc0) k_nil)))) (R := fun d => d = headD (exts wo s x c0)) (fun G zs ds q a => ⟨ds, by
        subst q
        exact a, ⟨wo, s, x, c0⟩, q, ⟨hhas, hxw, List.mem_of_getElem? hc0⟩, rfl⟩)) (show headD (exts wo s x c0) = .none by rw [hg.exts]; rfl)) e_non (fun d1 d2 q1 q2 => by rw [q1, q2]; exact d_notNone) b_id) (s_nil ⟨_, _, rfl⟩)
  · rintro ρ' ⟨y6, y7, rfl⟩
    have e : (s.zipIdx.take (List.range s.length).length).flatMap (lonely1 wo s) = lonely wo s := by
      rw [List.length_range, List.take_of_length_le (by rw [List.length_zipIdx]; exact Nat.le_refl _)]; rfl
    rw [e]
    refine s_ret (v_is (e_cmp op_eq (v_repr hgu hr.units B.repr (e_cal C6 hr (by decide) (a_dv (e_var 1 rfl) (a_dv (e_var 2 rfl) a_nil)) (fun ds q => ⟨⟨wo, s⟩, q, hhas, rfl⟩)) (sm_lonely hhas) (.inr ⟨_, rfl⟩)) (v_repr hgu hr.units B.repr (v_tupL B.tuple (e_var 5 rfl)) (sm_lonely hhas) (.inr ⟨_, rfl⟩)) (fun d1 d2 q1 q2 => by rw [q1, q2]; exact d_eqS)) ?_)
    simp
end
end BT

/-! ## text L14 -/
set_option Elab.async false
set_option linter.all false
set_option maxRecDepth 100000
set_option maxHeartbeats 1000000
/-! L14: the bag out of the script; the law. -/
namespace DL
open PySem PySem.Spec PyProof.Rows L2
theorem sqL_keep {K : PySem.W.Frag} {H H' : Hp} {a : Addr} {xs : List V} (k : ∀ b o, H b = some o → H' b = some o) (h : SqL K H a xs) : SqL K H' a xs := by
  rcases h with (h | ⟨o, h⟩) | h
  · exact .inl (.inl (k _ _ h))
  · exact .inl (.inr ⟨o, k _ _ h⟩)
  · exact .inr h
section
variable {X : Cx} {c : DL.Ctx} {ρ : Rho} {pos : Pos} {e a b : Expr} {P : Rho → Prop} {R : PyData → Prop} {rest : List Stmt}
/-- the script, known at the entry -/
structure Scr (X : Cx) (c : DL.Ctx) (q : Addr) (ns : List Int) : Prop where
  b : c.b = none
  at0 : SqL X.K c.H0 q (ns.map V.int)
  len : ns.length ≤ 1000
theorem Scr.now {q : Addr} {ns : List Int} (h : Scr X c q ns) {G : Hp} {σ : L2.St} {H : Hp} (S : St c G σ H ρ) : SqL X.K H q (ns.map V.int) :=
  sqL_keep (fun b o e => S.gr.h b o (by rw [h.b]; exact fun z => nomatch z) e) h.at0
theorem e_rawLen (i : Nat) {y : Str} {p py : Pos} {q : Addr} {ns : List Int} (sc : Scr X c q ns) (hm : X.mg "len" = none) (hρ : ρ[i]? = some (some (.raw (.ref q)))) (hN : X.N[i]? = some y := by rfl) (hv : Vis X.env.scope y := by first | exact Or.inl rfl | exact Or.inr (Or.inl rfl) | exact Or.inr (Or.inr rfl))
    (hd : (y == ("__debug__" : Str)) = false := by decide) (hcd : (y == ("__classdict__" : Str)) = false := by decide) (hg : Gl X "len" := by rfl) (he : starEach [.Name y py] X.env = (false, eval (.Name y py) X.env) :: starEach [] X.env := by rfl) (hpl : (backTo pos (starEach [] X.env)).any (·.1) = false := by rfl) :
    DV X c (.Call (.Name "len" p) [.Name y py] [] pos) ρ (dn ns.length) := fun σ H G S =>
  tW_of (pe_callB call_len_seq hg hm (by decide +kernel) (pa_cons (pe_var hN hv hd hcd) pa_nil he) (by decide) (by decide) he hpl) (by
    obtain ⟨v, h1, rfl⟩ := S.sl i _ hρ
    exact ⟨_, h1, q, _, rfl, .inl (sc.now S), _, G, rfl, Grow.refl S.gr.e, by rw [List.length_map]; exact .int _⟩)
theorem e_rawIx (i : Nat) {y : Str} {py : Pos} {q : Addr} {ns : List Int} {n : Nat} (sc : Scr X c q ns) (hρ : ρ[i]? = some (some (.raw (.ref q)))) (hb : DV X c b ρ (dn n)) (hn : n < ns.length) (hs : PlainIx b := by exact (fun _ _ => rfl)) (hN : X.N[i]? = some y := by rfl) (hv : Vis X.env.scope y := by first | exact Or.inl rfl | exact Or.inr (Or.inl rfl) | exact Or.inr (Or.inr rfl))
    (hd : (y == ("__debug__" : Str)) = false := by decide) (hcd : (y == ("__classdict__" : Str)) = false := by decide) : DE X c (.Subscript (.Name y py) b pos) ρ anyI := fun σ H G S =>
  tW_of (pe_ix ix_list (pe_var hN hv hd hcd) peW hs) (by
    obtain ⟨v, h1, rfl⟩ := S.sl i _ hρ
    refine ⟨_, h1, tW_mono (hb σ H G S) fun x H1 ⟨d, G1, q1, g, a⟩ => ?_⟩
    subst q1
    cases a
    refine ⟨q, _, _, _, rfl, rfl, sc.now (S.grow g), atI_nat (v := V.int ns[n]) (by rw [List.getElem?_map, List.getElem?_eq_getElem hn]; rfl), .int ns[n], G1, ⟨_, rfl⟩, g, .int _⟩)
theorem e_rawCut (i : Nat) {y : Str} {py p2 pk : Pos} {kd : Nat} {q : Addr} {ns : List Int} {n : Int} (sc : Scr X c q ns) (hρ : ρ[i]? = some (some (.raw (.ref q)))) (hN : X.N[i]? = some y := by rfl) (hv : Vis X.env.scope y := by first | exact Or.inl rfl | exact Or.inr (Or.inl rfl) | exact Or.inr (Or.inr rfl))
    (hd : (y == ("__debug__" : Str)) = false := by decide) (hcd : (y == ("__classdict__" : Str)) = false := by decide) : DO X c (.Subscript (.Name y py) (.Slice none (some (.Constant (.int n) kd pk)) none p2) pos) ρ (fun ds => ds = (cutD ns none (some n)).map PyData.int) := fun σ H G S =>
  tW_of (pe_slice sl_list (pe_var hN hv hd hcd) po_none (po_some pe_int)) (by
    obtain ⟨v, h1, rfl⟩ := S.sl i _ hρ
    refine ⟨_, h1, n, rfl, q, _, rfl, sc.now S, fun p hp => ⟨_, G, p, _, rfl, Grow.hid S.gr.e hp, rfl, hp, upd_same, S.gr.e.none hp, ?_⟩⟩
    have : cutV (ns.map V.int) none (some n) = (cutD ns none (some n)).map V.int := by
      unfold cutV cutD
      rw [List.length_map, List.map_take, List.map_drop]
    rw [this]
    exact AtAll.ofInts _)
end
section
variable {X : Cx} {c : DL.Ctx} {ρ : Rho} {pos : Pos} {e a b : Expr}
theorem t_any {Q : Bool → Prop} (h : DT X c e ρ Q) : DT X c e ρ (fun _ => True) := fun σ H G S => tWT_mono (h σ H G S) fun k H' ⟨G', _, g⟩ => ⟨G', trivial, g⟩
theorem v_abs {i : Int} {p : Pos} (hm : X.mg "abs" = none) (ha : DV X c a ρ (.int i)) (hg : Gl X "abs" := by rfl) (he : starEach [a] X.env = (false, eval a X.env) :: starEach [] X.env := by rfl) (hpl : (backTo pos (starEach [] X.env)).any (·.1) = false := by rfl) :
    DV X c (.Call (.Name "abs" p) [a] [] pos) ρ (.int (if i < 0 then -i else i)) :=
  e_callB call_abs hm (a_dv ha a_nil he) (fun ds q => q ▸ d_abs) (by decide +kernel) hg (by decide) (by decide) he hpl
end
/-- a new bag out of the script -/
def spBag (K : PySem.W.Frag) : Sp := fun vs H Q _ => ∃ (q : Addr) (ns : List Int) (t : Nat), vs = [.ref q, .int t] ∧ SqL K H q (ns.map V.int) ∧ ns.length ≤ 1000 ∧ t ≤ 1000 ∧ ∀ (p : Addr) (x y z : Int) (H' : Hp), H p = none → (∀ b o, H b = some o → H' b = some o) → H' p = some (.lst [.int x, .int y, .int z]) → Q (.ref p) H'
def spLaw (K : PySem.W.Frag) : Sp := fun vs H Q _ => ∃ (q : Addr) (ns : List Int), vs = [.ref q] ∧ SqL K H q (ns.map V.int) ∧ ns.length ≤ 1000 ∧ ∀ H', Q (.bl true) H'
end DL
namespace BT
open PySem PySem.Spec PyProof.Rows L2 DL
section
variable {P : Program} {w : World} {K : PySem.W.Frag} {mg : Str → Option Value} {base : Heap}
theorem p__law_bag (D : DefAt K mg "_law_bag" s__law_bag) (B : Nb mg) : Cal P w K mg base "_law_bag" 1 ["_law_script", "_law_turn"] (spBag K) := by
  obtain ⟨f, fd, F, hm⟩ := D.ex
  refine ⟨f, fd, F.ok c__law_bag (fun vs H Q E h => ?_) (fun cdv A outer s H vs Q E hr h => ⟨_, pssW.nox, ?_⟩), hm, F.kp, F.bindsN (fun _ _ _ _ _ _ us hl => match us, hl with | [_, _], _ => rfl), F.lk⟩
  · obtain ⟨q, ns, t, rfl, _⟩ := h
    rfl
  obtain ⟨q, ns, t, rfl, hq, hn, htt, hQ⟩ := h
  have sc : Scr (cxOf CX0 P w K mg base n__law_bag "_law_bag" (defScope s__law_bag) f cdv A outer s H E).nox ⟨none, fun _ => none, H, n__law_bag.length⟩ q ns := ⟨rfl, hq, hn⟩
  have run : DL.Runs (cxOf CX0 P w K mg base n__law_bag "_law_bag" (defScope s__law_bag) f cdv A outer s H E).nox ⟨none, fun _ => none, H, n__law_bag.length⟩ (defBody s__law_bag) [some (.raw (.ref q)), some (.dat (dn t)), none, none, none] (fun _ => False) (fun d => ∃ x y z : Int, d = .list [.int x, .int y, .int z]) := by
    refine s_set 2 (Q := anyI) (x_add (x_of e_int) (x_of (v_mul e_int (e_var 1 rfl) (.inl ⟨by decide, by decide⟩)))) (fun d q1 => ?_) c__law_bag.nd
    have hcl : (cutD ns none (some 63)).length ≤ 1000 := by
      unfold DL.cutD
      rw [List.length_take, List.length_drop]
      omega
    refine s_for (xs := cutD ns none (some 63)) (enc := PyData.int) (fun i ρ => ∃ (d2 : PyData) (x3 : Option Sl), anyI d2 ∧ ρ = [some (.raw (.ref q)), some (.dat (dn t)), some (.dat d2), x3, none]) rfl
      (iv_list (DO.dv (e_rawCut 0 sc rfl))) (tg_one (i := 3) c__law_bag.nd rfl (Or.inl rfl)) (Nat.le_of_ble_eq_true rfl) (fun _ _ => trivial) PassesOwn.never ⟨d, none, q1, rfl⟩ ?_ ?_
    · rintro i x ρ' hx ⟨d2, x3, q2, rfl⟩
      obtain ⟨z2, rfl⟩ := q2
      refine s_set 2 (Q := anyI) (e_imp (x_mod (x_int B.int (x_add (x_add (x_mul (x_of (e_var 2 rfl)) e_int (by decide)) (x_mul (e_imp (x_mod (x_int B.int (x_of (e_var 3 rfl))) e_int (by decide)) (fun d ⟨i, q, _⟩ => ⟨i, q⟩)) e_int (by decide))) (x_of e_int))) e_int (by decide)) (fun d ⟨i, q, _⟩ => ⟨i, q⟩)) (fun d q => s_nil ⟨d, _, q, rfl⟩) c__law_bag.nd
    · rintro ρ' ⟨d2, x3, q2, rfl⟩
      obtain ⟨z2, rfl⟩ := q2
      refine s_set 4 (Q := anyI) (e_if (Q1 := fun k => k = decide (t < ns.length)) (t_is (t_lt (e_var 1 rfl) (e_rawLen 0 sc B.len rfl)) (decide_eq_decide.mpr Int.ofNat_lt)) (fun k => x_int B.int (e_rawIx 0 sc rfl (e_var 1 rfl) (of_decide_eq_true k.symm))) (fun _ => x_of e_int)) (fun d q3 => ?_) c__law_bag.nd
      obtain ⟨z3, rfl⟩ := q3
      refine s_ret (DO.de (o_lst (a_cons (e_if (Q1 := fun _ => True) (Q := anyI) (t_pw (w_or (Q1 := fun _ => True) (Q2 := fun _ => True) (t_any (t_lt (e_var 4 rfl) e_int)) (fun _ => w_or1 (t_any (t_ge (e_var 4 rfl) (v_pow e_int e_int ⟨by decide, by decide, by decide⟩)))) (fun _ => trivial) (fun _ _ _ => trivial))) (fun _ => x_of (v_abs B.abs (e_var 4 rfl))) (fun _ => x_of e_int)) (a_dv (e_var 2 rfl) (a_dv (e_var 1 rfl) a_nil))) (fun ds ⟨d, r, q1, _, q2⟩ => by rw [q1, q2]; exact Nat.le_of_ble_eq_true rfl)) (fun ds ⟨d, r, q1, ⟨z, q3⟩, q2⟩ => ⟨z, z2, (t : Int), by rw [q1, q2, q3]; rfl⟩))
  refine run (L2.start n__law_bag [.ref q, .int t]) H (fun _ => none) ⟨rfl, ⟨fun _ _ z => z, (fun _ _ z => nomatch z), fun _ _ => rfl, fun _ _ _ z => z, fun z => z⟩, (fun _ z => nomatch z), (fun _ z => nomatch z), (fun _ z => nomatch z), fun i s h => ?_, fun i j ds es p ij h1 h2 => ?_⟩ _ (fun ρ' σ' H' G' p _ S' => p.elim) (fun d v H' G' r g _ a' => ?_)
  · match i, h with
    | 0, h => cases h; exact ⟨_, rfl, rfl⟩
    | 1, h => cases h; exact ⟨_, rfl, .int _⟩
    | i + 2, h =>
      exfalso
      match i, h with
      | 0, h => cases h
      | 1, h => cases h
      | 2, h => cases h
      | i + 3, h => simp at h
  · match i, h1 with
    | 0, h1 => cases h1
    | 1, h1 => cases h1
    | 2, h1 => cases h1
    | 3, h1 => cases h1
    | 4, h1 => cases h1
    | i + 5, h1 => simp at h1
  · obtain ⟨x, y, z, rfl⟩ := r
    cases a' with
    | lst k1 k2 =>
      rename_i p xs
      have hvs : xs = [V.int x, V.int y, V.int z] := AtAll.ints (ns := [x, y, z]) k2
      subst hvs
      refine hQ _ x y z H' ?_ (fun b o e => g.h b o (fun z => nomatch z) e) (g.e _ _ k1)
      cases e : H p with
      | none => rfl
      | some o =>
        have := g.f p (show H p ≠ none by rw [e]; exact fun z => nomatch z)
        rw [k1] at this
        cases this
end
end BT
namespace DL
open PySem PySem.Spec PyProof.Rows L2
section
variable {X : Cx} {c : DL.Ctx} {ρ : Rho} {pos : Pos} {e a b : Expr} {P : Rho → Prop} {R : PyData → Prop} {rest : List Stmt}
theorem e_calBG (i : Nat) {x y : Str} {p py : Pos} {es : List Expr} {ps : List Str} {k k' : Nat} {T : List PyData → (PyData → Prop) → Prop} {Qa : List PyData → Prop} {R : PyData → Prop} (hgd : X.A.guards = some []) (C : CalG X.prog X.w X.K X.mg X.base x k ps (spB T)) (hr : Room k' X.A) (hk : k ≤ k')
    (hρ : ρ[i]? = some (some .bag)) (ha : DA X c es ρ Qa) (ht : ∀ ds, Qa ds → T ds R) (hN : X.N[i]? = some y := by rfl) (hv : Vis X.env.scope y := by first | exact Or.inl rfl | exact Or.inr (Or.inl rfl) | exact Or.inr (Or.inr rfl))
    (hd : (y == ("__debug__" : Str)) = false := by decide) (hcd : (y == ("__classdict__" : Str)) = false := by decide)
    (hg : Gl X x := by rfl) (hdb : (x == ("__debug__" : Str)) = false := by decide) (he : starEach (.Name y py :: es) X.env = (false, eval (.Name y py) X.env) :: starEach es X.env := by rfl) (hpl : (backTo pos (starEach es X.env)).any (·.1) = false := by rfl) :
    DE X c (.Call (.Name x p) (.Name y py :: es) [] pos) ρ R := fun σ H G S => by
  obtain ⟨f, fd, F, m, kp, b⟩ := C.ex
  refine tW_of (pe_callG hgd F (hr.mono hk) hg m kp b (pa_cons (pe_var hN hv hd hcd) paW he) hdb he hpl) ?_
  obtain ⟨v, h1, q, rfl, hq⟩ := S.sl i _ hρ
  refine ⟨_, h1, tWA_mono (ha σ H G S) fun vs H1 ⟨ds, G1, qa, g, a⟩ => ?_⟩
  show spB T (V.ref q :: vs ++ []) H1 _ _
  rw [List.append_nil]
  refine ⟨q, G1, ds, R, vs, rfl, fun z e => ?_, (S.grow g).bagG q hq, g.e, a, ht ds qa, fun v d G' H' r g' a' => ⟨d, G', r, ?_, a'⟩⟩
  · rw [← hq] at e
    exact (g.bg S.bag) z e
  · rw [← hq] at g'
    exact g.trans S.bag g'
/-- a new bag is made, the rest draws from it: no own list stands -/
theorem s_bag (i : Nat) {x y f : Str} {px p py : Pos} {pc : Pos} {e2 : Expr} {q : Addr} {ns : List Int} {t : Nat} {k k' : Nat} {ps : List Str} (l : Nat) (sc : Scr X c q ns) (C : Cal X.prog X.w X.K X.mg X.base f k ps (spBag X.K)) (hr : Room k' X.A) (hk : k ≤ k') (htt : t ≤ 1000)
    (hρ : ρ[l]? = some (some (.raw (.ref q)))) (h2 : DV X c e2 ρ (dn t)) (noOwn : ∀ (j : Nat) (ds : List PyData), ρ[j]? ≠ some (some (Sl.own ds))) (noBag : ∀ j : Nat, ρ[j]? ≠ some (some Sl.bag))
    (rst : ∀ p G H, Runs X ⟨some p, G, H, c.n⟩ rest (ρ.set i (some .bag)) (fun ρ' => P (ρ'.set i none)) R)
    (hP : ∀ ρ' : Rho, P ρ' → (∀ (j : Nat) (ds : List PyData), ρ'[j]? ≠ some (some (Sl.own ds))) ∧ ∀ j : Nat, ρ'[j]? ≠ some (some Sl.bag))
    (hXN : X.N.Nodup) (hlt : i < c.n := by exact Nat.le_of_ble_eq_true rfl) (hi : X.N[i]? = some x := by rfl) (hx : Loc X.env.scope x := by first | exact Or.inl rfl | exact Or.inr rfl) (hN : X.N[l]? = some y := by rfl) (hv : Vis X.env.scope y := by first | exact Or.inl rfl | exact Or.inr (Or.inl rfl) | exact Or.inr (Or.inr rfl))
    (hd : (y == ("__debug__" : Str)) = false := by decide) (hcd : (y == ("__classdict__" : Str)) = false := by decide)
    (hg : Gl X f := by rfl) (hdb : (f == ("__debug__" : Str)) = false := by decide) (he : starEach [.Name y py, e2] X.env = (false, eval (.Name y py) X.env) :: starEach [e2] X.env := by rfl) (he2 : starEach [e2] X.env = (false, eval e2 X.env) :: starEach [] X.env := by rfl) (hpl : (backTo pc (starEach [e2] X.env)).any (·.1) = false := by rfl)
    (hs : swapsWith (.Call (.Name f p) [.Name y py, e2] [] pc) (some (.Name x px)) pos.line X.env = pure false := by rfl) (hf : X.fn x = true ∨ X.env.scope.names.lookup x = some .local := by first | exact .inl rfl | exact .inr rfl | assumption) :
    Runs X c (.Assign [.Name x px] (.Call (.Name f p) [.Name y py, e2] [] pc) pos :: rest) ρ P R := fun σ H G S D hn hrr => by
  obtain ⟨fa, fd, F, m, kp, b, _⟩ := C.ex
  refine tseq (ps_set hXN hi hx (pe_call F (hr.mono hk) hg m kp b .nil pass0 (pa_cons (pe_var hN hv hd hcd) (pa_cons peW pa_nil he2) he) hdb he hpl) hs hf) ?_
  obtain ⟨v, h1, rfl⟩ := S.sl l _ hρ
  refine ⟨_, h1, tW_mono (h2 σ H G S) fun v2 H1 ⟨d, G1, q1, g, a1⟩ => ?_⟩
  subst q1
  cases a1
  have S1 := S.grow g
  refine (show spBag X.K ([V.ref q, V.int (t : Int)] ++ []) H1 (fun x H1 => gName i x σ H1 (tWSs X rest D)) E0 from ⟨q, ns, t, rfl, sc.now S1, sc.len, htt, fun p x y z H2 hp hk2 hH2 => ?_⟩)
  have gp : G1 p = none := S1.gr.e.none hp
  have e12 : Ex G1 H2 := fun a o w => hk2 a o (S1.gr.e a o w)
  have hbag : BagAt H2 (some p) := fun a w => by cases w; exact ⟨x, y, z, hH2⟩
  have S2 : St ⟨some p, G1, H2, c.n⟩ G1 (σ.set i (some (.ref p))) H2 (ρ.set i (some .bag)) := by
    refine ⟨by rw [List.length_set]; exact S.len, Grow.refl e12, hbag, hbag, fun a w => by cases w; exact gp, fun j s w => ?_, fun j j' ds es r _ w _ _ _ => ?_⟩
    · by_cases e : i = j
      · subst e
        have hl : i < ρ.length := by
          have := (List.getElem?_eq_some_iff.mp w).1
          rwa [List.length_set] at this
        rw [List.getElem?_set_self hl] at w
        cases w
        exact ⟨.ref p, by rw [List.getElem?_set_self (by rw [S.len]; exact hlt)], p, rfl, rfl⟩
      · rw [List.getElem?_set_ne e] at w
        obtain ⟨v, z1, z2⟩ := S1.sl j s w
        refine ⟨v, by rw [List.getElem?_set_ne e]; exact z1, ?_⟩
        cases s with
        | dat d => exact z2
        | own ds => exact absurd w (noOwn j ds)
        | bag => exact absurd w (noBag j)
        | raw u => exact z2
    · by_cases e : i = j
      · subst e
        have hl : i < ρ.length := by
          have := (List.getElem?_eq_some_iff.mp w).1
          rwa [List.length_set] at this
        rw [List.getElem?_set_self hl] at w
        cases w
      · rw [List.getElem?_set_ne e] at w
        exact absurd w (noOwn j ds)
  have comp : ∀ {G3 H3}, Grow (some p) G1 H2 G3 H3 → Grow c.b c.G0 c.H0 G3 H3 := fun {G3 H3} g3 => by
    have hb : c.b = none := sc.b
    have s1 := S1.gr
    rw [hb] at s1 ⊢
    refine ⟨s1.g.trans g3.g, g3.e, fun a n => ?_, fun a o _ w => ?_, fun _ a w => nomatch w⟩
    · have n1 : H1 a ≠ none := by
        cases w : c.H0 a with
        | none => exact absurd w n
        | some o => rw [s1.h a o (fun z => nomatch z) w]; exact fun z => nomatch z
      have n2 : H2 a ≠ none := by
        cases w : H1 a with
        | none => exact absurd w n1
        | some o => rw [hk2 a o w]; exact fun z => nomatch z
      rw [g3.f a n2, s1.f a n]
    · have w1 := s1.h a o (fun z => nomatch z) w
      refine g3.h a o (fun z => ?_) (hk2 a o w1)
      cases z
      rw [hp] at w1
      cases w1
  refine rst p G1 H2 _ H2 G1 S2 D (fun ρ' σ' H' G' hP' e3 S3 => ?_) (fun d v H' G' hd' g3 _ a3 => ?_)
  · refine hn (ρ'.set i none) σ' H' G' hP' (g.g.trans e3) ⟨S3.len, comp S3.gr, ?_, ?_, ?_, fun j s w => ?_, fun j j' ds es r _ w _ _ _ => absurd w ((hP _ hP').1 j ds)⟩
    · rw [sc.b]; exact fun a z => nomatch z
    · exact S.bag0
    · rw [sc.b]; exact fun a z => nomatch z
    · have hne : i ≠ j := fun e => by
        subst e
        have hl : i < ρ'.length := by
          have := (List.getElem?_eq_some_iff.mp w).1
          rwa [List.length_set] at this
        rw [List.getElem?_set_self hl] at w
        cases w
      have w0 := w
      rw [List.getElem?_set_ne hne] at w
      obtain ⟨v, z1, z2⟩ := S3.sl j s w
      refine ⟨v, z1, ?_⟩
      cases s with
      | dat d => exact z2
      | own ds => exact absurd w0 ((hP _ hP').1 j ds)
      | bag => exact absurd w0 ((hP _ hP').2 j)
      | raw u => exact z2
  · refine hrr d v H' G' hd' (comp g3) ?_ a3
    rw [sc.b]; exact fun a z => nomatch z
end
end DL

/-! ## text L15 -/
set_option Elab.async false
set_option linter.all false
set_option maxRecDepth 100000
set_option maxHeartbeats 1000000
/-! L15: the law. -/
namespace DL
open PySem PySem.Spec PyProof.Rows L2
section
variable {X : Cx} {c : DL.Ctx} {ρ : Rho} {pos : Pos} {e a b : Expr}
theorem v_max2 {i j : Int} {p : Pos} (hm : X.mg "max" = none) (hc : X.calm = true) (ha : DV X c a ρ (.int i)) (hb : DV X c b ρ (.int j)) (hg : Gl X "max" := by rfl) (he : starEach [a, b] X.env = (false, eval a X.env) :: starEach [b] X.env := by rfl) (he2 : starEach [b] X.env = (false, eval b X.env) :: starEach [] X.env := by rfl) (hpl : (backTo pos (starEach [b] X.env)).any (·.1) = false := by rfl) :
    DV X c (.Call (.Name "max" p) [a, b] [] pos) ρ (.int (if j > i then j else i)) :=
  e_callB (call_max2 hc) hm (a_dv ha (a_dv hb a_nil he2) he) (fun ds q => q ▸ d_max2) (by decide +kernel) hg (by decide) (by decide) he hpl
end
end DL
namespace BT
open PySem PySem.Spec PyProof.Rows L2 DL
theorem law_turns (n : Nat) : ∃ m : Nat, m ≤ 3 ∧ (if (if (3 : Int) < (n : Int) then (3 : Int) else (n : Int)) > 2 then (if (3 : Int) < (n : Int) then (3 : Int) else (n : Int)) else 2) = (m : Int) := by
  by_cases h : (3 : Int) < (n : Int)
  · exact ⟨3, by omega, by rw [if_pos h]; rfl⟩
  · rw [if_neg h]
    by_cases h2 : (n : Int) > 2
    · exact ⟨n, by omega, by rw [if_pos h2]⟩
    · exact ⟨2, by omega, by rw [if_neg h2]; rfl⟩
theorem law_slots {q : Addr} {d : PyData} {x1 : Option Sl} : (∀ (j : Nat) (ds : List PyData), ([some (.raw (.ref q)), some (.dat d), x1] : Rho)[j]? ≠ some (some (Sl.own ds)) ∨ x1 = some (Sl.own ds)) ∧ (∀ j : Nat, ([some (.raw (.ref q)), some (.dat d), x1] : Rho)[j]? ≠ some (some Sl.bag) ∨ x1 = some Sl.bag) := by
  constructor
  · intro j ds
    match j with
    | 0 => exact .inl fun z => by cases z
    | 1 => exact .inl fun z => by cases z
    | 2 =>
      by_cases h : x1 = some (Sl.own ds)
      · exact .inr h
      · exact .inl fun z => h (by injection z)
    | j + 3 => exact .inl fun z => by simp at z
  · intro j
    match j with
    | 0 => exact .inl fun z => by cases z
    | 1 => exact .inl fun z => by cases z
    | 2 =>
      by_cases h : x1 = some Sl.bag
      · exact .inr h
      · exact .inl fun z => h (by injection z)
    | j + 3 => exact .inl fun z => by simp at z
section
variable {P : Program} {w : World} {K : PySem.W.Frag} {mg : Str → Option Value} {base : Heap}
theorem p_law {f : Addr} {fd : FuncData} (F : FunN K "law" s_law f fd) (B : Nb mg) (C1 : Cal P w K mg base "_law_bag" 1 ["_law_script", "_law_turn"] (spBag K)) (C2 : CalG P w K mg base "_law_smooth" 9 ["_law_bag_here"] (spB T_smooth)) (C3 : CalG P w K mg base "_law_tied" 9 ["_law_bag_here"] (spB T_smooth)) :
    FnG P w K mg base 10 f fd ["_law_script"] (spLaw K) := by
  obtain ⟨oc, od, dV, kV, doc, pm, an, cdv, ct, osl, rfl, lk, hcd, _, _⟩ := F.ex
  refine fnG_of lk hcd c_law (fun vs H Q E ⟨q, ns, h, _⟩ => by rw [h]; rfl) (fun A gA outer s H vs Q E hr h => ⟨_, pssW.nox, ?_⟩)
  obtain ⟨q, ns, rfl, hq, hn, hQ⟩ := h
  have sc : Scr (cxOf CX0 P w K mg base n_law "law" (defScope s_law) f cdv A outer s H E).nox ⟨none, fun _ => none, H, n_law.length⟩ q ns := ⟨rfl, hq, hn⟩
  have hgd : (cxOf CX0 P w K mg base n_law "law" (defScope s_law) f cdv A outer s H E).nox.A.guards = some [] := gA
  have run : DL.Runs (cxOf CX0 P w K mg base n_law "law" (defScope s_law) f cdv A outer s H E).nox ⟨none, fun _ => none, H, n_law.length⟩ (defBody s_law) [some (.raw (.ref q)), none, none] (fun _ => False) (fun d => d = .bool true) := by
    obtain ⟨m, hm, em⟩ := law_turns ns.length
    refine s_for (xs := List.range m) (enc := dn) (fun i ρ => ∃ x1 : Option Sl, (x1 = none ∨ ∃ d, x1 = some (.dat d)) ∧ ρ = [some (.raw (.ref q)), x1, none]) rfl
      (iv_range1 (v_is (v_max2 B.max rfl e_int (v_min2 (i := (ns.length : Int)) (j := 3) B.min rfl (e_rawLen 0 sc B.len rfl) e_int)) ?_) (by omega) B.range) (tg_one (i := 1) c_law.nd rfl (Or.inl rfl)) (Nat.le_of_ble_eq_true rfl) (fun _ _ => trivial) PassesOwn.never ⟨none, .inl rfl, rfl⟩ ?_ (fun ρ' ⟨x1, _, e⟩ => by subst e; exact s_ret e_bl)
    · exact congrArg PyData.int em
    · rintro i t ρ' ht ⟨x1, _, rfl⟩
      have htm : t < m := List.mem_range.mp (List.mem_of_getElem? ht)
      refine s_bag 2 0 sc C1 hr (by decide) (by omega) rfl (e_var 1 rfl) (fun j ds => (law_slots.1 j ds).resolve_right fun z => nomatch z) (fun j => (law_slots.2 j).resolve_right fun z => nomatch z) (fun p G H' => ?_) (fun ρ' ⟨x1, hx1, e⟩ => ?_) c_law.nd
      · refine s_ifF (t_is (t_or (k1 := false) (k2 := false) (t_notV (t_call (k := true) (e_calBG 2 hgd C2 hr (by decide) rfl a_nil (fun ds q => ⟨q, rfl⟩)))) (fun _ => t_notV (t_call (k := true) (e_calBG 2 hgd C3 hr (by decide) rfl a_nil (fun ds q => ⟨q, rfl⟩))))) rfl) (s_nil ⟨some (.dat (dn t)), .inr ⟨_, rfl⟩, rfl⟩)
      · subst e
        constructor
        · intro j ds z
          rcases hx1 with rfl | ⟨d, rfl⟩
          · match j, z with
            | 0, z => cases z
            | 1, z => cases z
            | 2, z => cases z
            | j + 3, z => simp at z
          · exact (law_slots (q := q) (d := d) (x1 := none)).1 j ds |>.resolve_right (fun z => nomatch z) <| z
        · intro j z
          rcases hx1 with rfl | ⟨d, rfl⟩
          · match j, z with
            | 0, z => cases z
            | 1, z => cases z
            | 2, z => cases z
            | j + 3, z => simp at z
          · exact (law_slots (q := q) (d := d) (x1 := none)).2 j |>.resolve_right (fun z => nomatch z) <| z
  refine run (L2.start n_law [.ref q]) H (fun _ => none) ⟨rfl, ⟨fun _ _ z => z, (fun _ _ z => nomatch z), fun _ _ => rfl, fun _ _ _ z => z, fun z => z⟩, (fun _ z => nomatch z), (fun _ z => nomatch z), (fun _ z => nomatch z), fun i s h => ?_, fun i j ds es p ij h1 h2 => ?_⟩ _ (fun ρ' σ' H' G' p _ S' => p.elim) (fun d v H' G' r g _ a' => ?_)
  · match i, h with
    | 0, h => cases h; exact ⟨_, rfl, rfl⟩
    | 1, h => cases h
    | 2, h => cases h
    | i + 3, h => simp at h
  · match i, h1 with
    | 0, h1 => cases h1
    | 1, h1 => cases h1
    | 2, h1 => cases h1
    | i + 3, h1 => simp at h1
  · subst r
    cases a'
    exact hQ H'
end
end BT

/-! ## text L16 -/
set_option Elab.async false
set_option linter.all false
set_option maxRecDepth 100000
set_option maxHeartbeats 0
/-! L16: the law's call behind the top, where no text is under way. -/
namespace DL
open PySem PySem.Spec PyProof.Rows L2
section
variable {P : Program} {w : World} {K : PySem.W.Frag} {mg mb : Str → Option Value} {k : Nat} {fa a : Addr} {fd : FuncData} {x : Str} {sp : Sp} {s1 : Shared} {us : List Value} {ns : List Int}
/-- what the call has to leave -/
abbrev Left (s1 : Shared) (r : Result) (s' : Shared) : Prop := r = .ok (.ret (.bool true)) ∧ OldK s1.heap s'.heap ∧ s'.os = s1.os ∧ AllBare s'.gens
/-- from a store that tracks the script at most -/
theorem lawG_core (KX : K.In s1.heap) (hns : s1.heap.Ns mainGlobals mg) (hb : s1.heap.Ns builtinsNs mb) (hbb : ∀ y : Str, y ≠ "__name__" → mb y = bootBuiltins y) (lim : s1.heap.NoLimit) (bare : s1.gens = #[])
    (ha : s1.heap.get? a = some { cls := .type "list", data := .seq us.toArray }) (room : Room k callerA)
    (F : ∀ base : Heap, K.In base → base.Ns mainGlobals mg → FnG P w K mg base k fa fd [x] sp) (bind : ∀ (s : Shared) (u : Value), BindsTo s fd ⟨[u], []⟩ [(x, u)])
    (H : Hp) (only : Only H) (hs : sp [.ref a] H (fun v _ => v = .bl true) fun _ _ _ => False) (ok : HOk P w H s1.heap) (mine : ∀ b, H b ≠ none → b = a) (free : H a ≠ none → K.lookup a = none) :
    codeAny (model P w) callerA (.call (.ref fa) ⟨[.ref a], []⟩) (Left s1) s1 := by
  have away : ∀ {b : Addr}, b ≠ a → H b = none := fun {b} ne => by
    cases q : H b with
    | none => rfl
    | some u => exact absurd (mine b (by rw [q]; exact fun z => nomatch z)) ne
  have seen : ∀ {b : Addr} {o : Obj}, s1.heap.get? b = some o → H b = none → (hidT s1.heap H).get? b = some o := hidT_get
  have dicts : ∀ {b : Addr} {m : Str → Option Value}, s1.heap.Ns b m → (hidT s1.heap H).Ns b m := by
    rintro b m ⟨o, es, ep, e, d, r⟩
    refine ⟨o, es, ep, seen e (away ?_), d, r⟩
    rintro rfl
    rw [ha] at e
    cases e
    cases (show Data.seq us.toArray _ = Data.dict es ep from d)
  have kin : K.In (hidT s1.heap H) := fun b o e => by
    refine seen (KX b o e) ?_
    by_cases ne : b = a
    · subst ne
      cases q : H b with
      | none => rfl
      | some u =>
        have := free (by rw [q]; exact fun z => nomatch z)
        rw [this] at e
        cases e
    · exact away ne
  have md : Mod K mg (hidT s1.heap H) := by
    obtain ⟨mc, l1, l2⟩ := lim
    exact ⟨kin, dicts hns, ⟨mb, dicts hb, hbb⟩, ⟨mc, dicts l1, l2⟩⟩
  have env : Env0 P w K mg (hidT s1.heap H) callerA [] s1 H :=
    ⟨rfl, md, fun b o e => of_hidT e, Nat.le_of_eq (hidT_size _ _), trivial, (fun b hb => nomatch (show b ∈ ([] : List Addr) from hb)), ok, .of_eq bare⟩
  refine codeAny_mono ((F _ kin (dicts hns)).run callerA rfl [] s1 H ⟨[.ref a], []⟩ [.ref a] [.ref a] _ _ room env (bind s1 (.ref a)) (.cons rfl .nil) hs) fun r s' h => ?_
  match r, h with
  | .error _, h => exact h.elim
  | .ok .next, h => exact h.elim
  | .ok .brk, h => exact h.elim
  | .ok .cont, h => exact h.elim
  | .ok (.ret u), ⟨v, H', os, br, un, ok', rv, q⟩ =>
    have q' : v = .bl true := q
    subst q'
    obtain rfl : u = Value.bool true := rv
    refine ⟨rfl, OldK.of_keep fun b o e => ?_, os, br⟩
    rcases only b with z | ⟨ob, xs, z⟩
    · exact un.keep b o e z (fun y => nomatch (show b ∈ ([] : List Addr) from y)) (by simp)
    · have e1 := (ok b _ z).1
      have e2 := (ok' b _ (un.frzs b ob _ z)).1
      rw [e] at e1
      cases e1
      exact e2
theorem lawG_call (KX : K.In s1.heap) (hns : s1.heap.Ns mainGlobals mg) (hb : s1.heap.Ns builtinsNs mb) (hbb : ∀ y : Str, y ≠ "__name__" → mb y = bootBuiltins y) (lim : s1.heap.NoLimit) (bare : s1.gens = #[])
    (ha : s1.heap.get? a = some { cls := .type "list", data := .seq us.toArray }) (hi : IntsAre us ns) (hl : ns.length ≤ sizeLine) (room : Room k callerA)
    (F : ∀ base : Heap, K.In base → base.Ns mainGlobals mg → FnG P w K mg base k fa fd [x] sp) (bind : ∀ (s : Shared) (u : Value), BindsTo s fd ⟨[u], []⟩ [(x, u)])
    (hsp : ∀ H : Hp, SqL K H a (ns.map V.int) → sp [.ref a] H (fun v _ => v = .bl true) fun _ _ _ => False) :
    codeAny (model P w) callerA (.call (.ref fa) ⟨[.ref a], []⟩) (Left s1) s1 := by
  have rv := vals_ints hi
  have many := hi.length
  cases hk : K.lookup a with
  | some o =>
    have e := KX a o hk
    rw [ha] at e
    cases e
    have hS : SqL K (fun _ => none) a (ns.map V.int) := .inr ⟨_, us.toArray, _, hk, rfl, rfl, rfl, by rw [List.size_toArray, many]; exact hl, by simpa using rv⟩
    exact lawG_core KX hns hb hbb lim bare ha room F bind _ (fun _ => .inl rfl) (hsp _ hS) (fun b u z => nomatch (show (none : Option HO) = some u from z)) (fun b z => absurd rfl z) fun z => absurd rfl z
  | none =>
    let H : Hp := fun b => if b = a then some (.frz { cls := .type "list", data := .seq us.toArray } (.lst (ns.map V.int))) else none
    have at_a : H a = some (.frz { cls := .type "list", data := .seq us.toArray } (.lst (ns.map V.int))) := if_pos rfl
    have off : ∀ b, b ≠ a → H b = none := fun b ne => if_neg ne
    have hS : SqL K H a (ns.map V.int) := .inl (.inr ⟨_, at_a⟩)
    refine lawG_core KX hns hb hbb lim bare ha room F bind H (fun b => ?_) (hsp H hS) (fun b u z => ?_) (fun b z => Classical.byContradiction fun ne => z (off b ne)) fun _ => hk
    · by_cases e : b = a
      · exact .inr ⟨_, _, by rw [e]; exact at_a⟩
      · exact .inl (off b e)
    · by_cases e : b = a
      · subst e
        rw [at_a] at z
        cases z
        exact ⟨ha, by rw [List.length_map]; exact hl, us, _, rv, ha⟩
      · rw [off b e] at z; cases z
end
/-- the goal of the head, the law's promise over defs called where no text is under way -/
theorem walk_ofG {l : PySem.W.OpenLaw} {n k : Nat} {q : Program} {loose : List Str} {XP : (Str → Option Value) → Heap → Prop} {YP : World → Heap → Prop} {d : DefRec} {x : Str} (hn : l.most = some n) (hn2 : n ≤ sizeLine) (hdf : d.params.defaults = []) (room : Room k callerA)
    (F : ∀ (w : World) (mg : Str → Option Value) (fa : Addr) (h : Heap), YP w h → h.Ns mainGlobals mg → mg d.name = some (.ref fa) → ∃ (K : PySem.W.Frag) (fd : FuncData) (sp : Sp), K.In h ∧ (∀ (s : Shared) (u : Value), BindsTo s fd ⟨[u], []⟩ [(x, u)]) ∧
      (∀ (H : Hp) (a : Addr) (ns : List Int), ns.length ≤ n → SqL K H a (ns.map V.int) → sp [.ref a] H (fun v _ => v = .bl true) fun _ _ _ => False) ∧ ∀ base : Heap, K.In base → base.Ns mainGlobals mg → FnG l.prog w K mg base k fa fd [x] sp) :
    PySem.W.WalkO q loose XP YP l.row.toRowW d [] (fun f vs => PySem.call f vs) := by
  refine Att.attach_call hn hdf fun w s₀ s1 mg mb fa o pm cd doc a vs ns G Y ho hd hcd hmg hobj hints hlen hg => ?_
  obtain ⟨K, fd, sp, KX, bind, hsp, hF⟩ := F w mg fa _ Y G.T.g hmg
  exact lawG_call KX G.T.g G.T.b G.T.builtins G.T.nolimit hg hobj hints (Nat.le_trans hlen hn2) room hF bind fun H hS => hsp H a ns hlen hS
end DL

/-! ## text L17 -/
set_option Elab.async false
set_option linter.all false
set_option maxRecDepth 100000
set_option maxHeartbeats 0
/-! L17: the head. -/
namespace BT
open PySem PySem.Spec PyProof.Rows L2 DL
def d_is_whole : He.DefD := ⟨("is_whole", none), "is_whole", "is_whole", defArgs s_is_whole, defBody s_is_whole, defScope s_is_whole, [], []⟩
def d_is_between : He.DefD := ⟨("is_between", none), "is_between", "is_between", defArgs s_is_between, defBody s_is_between, defScope s_is_between, [], []⟩
def d_is_tuple_of : He.DefD := ⟨("is_tuple_of", none), "is_tuple_of", "is_tuple_of", defArgs s_is_tuple_of, defBody s_is_tuple_of, defScope s_is_tuple_of, [], []⟩
def d_is_lot_of : He.DefD := ⟨("is_lot_of", none), "is_lot_of", "is_lot_of", defArgs s_is_lot_of, defBody s_is_lot_of, defScope s_is_lot_of, [], []⟩
def d_is_part : He.DefD := ⟨("is_part", none), "is_part", "is_part", defArgs s_is_part, defBody s_is_part, defScope s_is_part, [], []⟩
def d_product_of : He.DefD := ⟨("product_of", none), "product_of", "product_of", defArgs s_product_of, defBody s_product_of, defScope s_product_of, [], []⟩
def d_are_outcomes : He.DefD := ⟨("are_outcomes", none), "are_outcomes", "are_outcomes", defArgs s_are_outcomes, defBody s_are_outcomes, defScope s_are_outcomes, [], []⟩
def d_are_contexts : He.DefD := ⟨("are_contexts", none), "are_contexts", "are_contexts", defArgs s_are_contexts, defBody s_are_contexts, defScope s_are_contexts, [], []⟩
def d_is_scenario_by : He.DefD := ⟨("is_scenario_by", none), "is_scenario_by", "is_scenario_by", defArgs s_is_scenario_by, defBody s_is_scenario_by, defScope s_is_scenario_by, [], []⟩
def d_sections_by : He.DefD := ⟨("sections_by", none), "sections_by", "sections_by", defArgs s_sections_by, defBody s_sections_by, defScope s_sections_by, [], []⟩
def d_all_of : He.DefD := ⟨("all_of", none), "all_of", "all_of", defArgs s_all_of, defBody s_all_of, defScope s_all_of, [], []⟩
def d_globals_of : He.DefD := ⟨("globals_of", none), "globals_of", "globals_of", defArgs s_globals_of, defBody s_globals_of, defScope s_globals_of, [], []⟩
def d_part_of : He.DefD := ⟨("part_of", none), "part_of", "part_of", defArgs s_part_of, defBody s_part_of, defScope s_part_of, [], []⟩
def d_shared_by : He.DefD := ⟨("shared_by", none), "shared_by", "shared_by", defArgs s_shared_by, defBody s_shared_by, defScope s_shared_by, [], []⟩
def d_check_scenario : He.DefD := ⟨("check_scenario", none), "check_scenario", "check_scenario", defArgs s_check_scenario, defBody s_check_scenario, defScope s_check_scenario, [], []⟩
def d_check_between : He.DefD := ⟨("check_between", none), "check_between", "check_between", defArgs s_check_between, defBody s_check_between, defScope s_check_between, [], []⟩
def d_is_section_of : He.DefD := ⟨("is_section_of", none), "is_section_of", "is_section_of", defArgs s_is_section_of, defBody s_is_section_of, defScope s_is_section_of, [], []⟩
def d_are_sections : He.DefD := ⟨("are_sections", none), "are_sections", "are_sections", defArgs s_are_sections, defBody s_are_sections, defScope s_are_sections, [], []⟩
def d_wrong_in_support : He.DefD := ⟨("wrong_in_support", none), "wrong_in_support", "wrong_in_support", defArgs s_wrong_in_support, defBody s_wrong_in_support, defScope s_wrong_in_support, [], []⟩
def d_told_parts : He.DefD := ⟨("told_parts", none), "told_parts", "told_parts", defArgs s_told_parts, defBody s_told_parts, defScope s_told_parts, [], []⟩
def d_are_matched : He.DefD := ⟨("are_matched", none), "are_matched", "are_matched", defArgs s_are_matched, defBody s_are_matched, defScope s_are_matched, [], []⟩
def d_is_consistent_by : He.DefD := ⟨("is_consistent_by", none), "is_consistent_by", "is_consistent_by", defArgs s_is_consistent_by, defBody s_is_consistent_by, defScope s_is_consistent_by, [], []⟩
def d_is_possible : He.DefD := ⟨("is_possible", none), "is_possible", "is_possible", defArgs s_is_possible, defBody s_is_possible, defScope s_is_possible, [], []⟩
def d_extending_by : He.DefD := ⟨("extending_by", none), "extending_by", "extending_by", defArgs s_extending_by, defBody s_extending_by, defScope s_extending_by, [], []⟩
def d_tells : He.DefD := ⟨("tells", none), "tells", "tells", defArgs s_tells, defBody s_tells, defScope s_tells, [], []⟩
def d_extensions_by : He.DefD := ⟨("extensions_by", none), "extensions_by", "extensions_by", defArgs s_extensions_by, defBody s_extensions_by, defScope s_extensions_by, [], []⟩
def d_lonely_by : He.DefD := ⟨("lonely_by", none), "lonely_by", "lonely_by", defArgs s_lonely_by, defBody s_lonely_by, defScope s_lonely_by, [], []⟩
def d_contextuality_by : He.DefD := ⟨("contextuality_by", none), "contextuality_by", "contextuality_by", defArgs s_contextuality_by, defBody s_contextuality_by, defScope s_contextuality_by, [], []⟩
def d_check_support : He.DefD := ⟨("check_support", none), "check_support", "check_support", defArgs s_check_support, defBody s_check_support, defScope s_check_support, [], []⟩
def d_is_consistent : He.DefD := ⟨("is_consistent", none), "is_consistent", "is_consistent", defArgs s_is_consistent, defBody s_is_consistent, defScope s_is_consistent, [], []⟩
def d_extending : He.DefD := ⟨("extending", none), "extending", "extending", defArgs s_extending, defBody s_extending, defScope s_extending, [], []⟩
def d_extension : He.DefD := ⟨("extension", none), "extension", "extension", defArgs s_extension, defBody s_extension, defScope s_extension, [], []⟩
def d_non_extending : He.DefD := ⟨("non_extending", none), "non_extending", "non_extending", defArgs s_non_extending, defBody s_non_extending, defScope s_non_extending, [], []⟩
def d_contextuality_of : He.DefD := ⟨("contextuality_of", none), "contextuality_of", "contextuality_of", defArgs s_contextuality_of, defBody s_contextuality_of, defScope s_contextuality_of, [], []⟩
def d__law_bag : He.DefD := ⟨("_law_bag", none), "_law_bag", "_law_bag", defArgs s__law_bag, defBody s__law_bag, defScope s__law_bag, [], []⟩
def d__law_draw : He.DefD := ⟨("_law_draw", none), "_law_draw", "_law_draw", defArgs s__law_draw, defBody s__law_draw, defScope s__law_draw, [], []⟩
def d__law_any : He.DefD := ⟨("_law_any", none), "_law_any", "_law_any", defArgs s__law_any, defBody s__law_any, defScope s__law_any, [], []⟩
def d__law_mixed : He.DefD := ⟨("_law_mixed", none), "_law_mixed", "_law_mixed", defArgs s__law_mixed, defBody s__law_mixed, defScope s__law_mixed, [], []⟩
def d__law_cells : He.DefD := ⟨("_law_cells", none), "_law_cells", "_law_cells", defArgs s__law_cells, defBody s__law_cells, defScope s__law_cells, [], []⟩
def d__law_told : He.DefD := ⟨("_law_told", none), "_law_told", "_law_told", defArgs s__law_told, defBody s__law_told, defScope s__law_told, [], []⟩
def d__law_part : He.DefD := ⟨("_law_part", none), "_law_part", "_law_part", defArgs s__law_part, defBody s__law_part, defScope s__law_part, [], []⟩
def d__law_common : He.DefD := ⟨("_law_common", none), "_law_common", "_law_common", defArgs s__law_common, defBody s__law_common, defScope s__law_common, [], []⟩
def d__law_rid : He.DefD := ⟨("_law_rid", none), "_law_rid", "_law_rid", defArgs s__law_rid, defBody s__law_rid, defScope s__law_rid, [], []⟩
def d__law_tree_lots : He.DefD := ⟨("_law_tree_lots", none), "_law_tree_lots", "_law_tree_lots", defArgs s__law_tree_lots, defBody s__law_tree_lots, defScope s__law_tree_lots, [], []⟩
def d__law_sections : He.DefD := ⟨("_law_sections", none), "_law_sections", "_law_sections", defArgs s__law_sections, defBody s__law_sections, defScope s__law_sections, [], []⟩
def d__law_of_wholes : He.DefD := ⟨("_law_of_wholes", none), "_law_of_wholes", "_law_of_wholes", defArgs s__law_of_wholes, defBody s__law_of_wholes, defScope s__law_of_wholes, [], []⟩
def d__law_shrunk : He.DefD := ⟨("_law_shrunk", none), "_law_shrunk", "_law_shrunk", defArgs s__law_shrunk, defBody s__law_shrunk, defScope s__law_shrunk, [], []⟩
def d__law_some_cells : He.DefD := ⟨("_law_some_cells", none), "_law_some_cells", "_law_some_cells", defArgs s__law_some_cells, defBody s__law_some_cells, defScope s__law_some_cells, [], []⟩
def d__law_possible : He.DefD := ⟨("_law_possible", none), "_law_possible", "_law_possible", defArgs s__law_possible, defBody s__law_possible, defScope s__law_possible, [], []⟩
def d__law_tree_world : He.DefD := ⟨("_law_tree_world", none), "_law_tree_world", "_law_tree_world", defArgs s__law_tree_world, defBody s__law_tree_world, defScope s__law_tree_world, [], []⟩
def d__law_ring_row : He.DefD := ⟨("_law_ring_row", none), "_law_ring_row", "_law_ring_row", defArgs s__law_ring_row, defBody s__law_ring_row, defScope s__law_ring_row, [], []⟩
def d__law_star_row : He.DefD := ⟨("_law_star_row", none), "_law_star_row", "_law_star_row", defArgs s__law_star_row, defBody s__law_star_row, defScope s__law_star_row, [], []⟩
def d__law_planted : He.DefD := ⟨("_law_planted", none), "_law_planted", "_law_planted", defArgs s__law_planted, defBody s__law_planted, defScope s__law_planted, [], []⟩
def d__law_smooth : He.DefD := ⟨("_law_smooth", none), "_law_smooth", "_law_smooth", defArgs s__law_smooth, defBody s__law_smooth, defScope s__law_smooth, [], []⟩
def d__law_tied : He.DefD := ⟨("_law_tied", none), "_law_tied", "_law_tied", defArgs s__law_tied, defBody s__law_tied, defScope s__law_tied, [], []⟩
def d_law : He.DefD := ⟨("law", none), "law", "law", defArgs s_law, defBody s_law, defScope s_law, [], []⟩
def fn0 : List He.DefD := [d_is_whole, d_is_between, d_is_tuple_of, d_is_lot_of, d_is_part, d_product_of, d_are_outcomes, d_are_contexts, d_is_scenario_by, d_sections_by, d_all_of, d_globals_of, d_part_of, d_shared_by]
def fn1 : List He.DefD := [d_check_scenario, d_check_between, d_is_section_of, d_are_sections, d_wrong_in_support, d_told_parts, d_are_matched, d_is_consistent_by, d_is_possible, d_extending_by, d_tells, d_extensions_by, d_lonely_by, d_contextuality_by]
def fn2 : List He.DefD := [d_check_support, d_is_consistent, d_extending, d_extension, d_non_extending, d_contextuality_of, d__law_bag, d__law_draw, d__law_any, d__law_mixed, d__law_cells, d__law_told, d__law_part, d__law_common]
def fn3 : List He.DefD := [d__law_rid, d__law_tree_lots, d__law_sections, d__law_of_wholes, d__law_shrunk, d__law_some_cells, d__law_possible, d__law_tree_world, d__law_ring_row, d__law_star_row, d__law_planted, d__law_smooth, d__law_tied, d_law]
def fnAll : List He.DefD := fn0 ++ (fn1 ++ (fn2 ++ (fn3)))
def fa0 : List He.Fa := [.glo "is_whole", .glo "is_between", .glo "is_tuple_of", .glo "is_lot_of", .glo "is_part", .glo "product_of", .glo "are_outcomes", .glo "are_contexts", .glo "is_scenario_by", .glo "sections_by", .glo "all_of", .glo "globals_of", .glo "part_of", .glo "shared_by", .glo "check_scenario", .glo "check_between", .glo "is_section_of", .glo "are_sections", .glo "wrong_in_support", .glo "told_parts"]
def fa1 : List He.Fa := [.glo "are_matched", .glo "is_consistent_by", .glo "is_possible", .glo "extending_by", .glo "tells", .glo "extensions_by", .glo "lonely_by", .glo "contextuality_by", .glo "check_support", .glo "is_consistent", .glo "extending", .glo "extension", .glo "non_extending", .glo "contextuality_of", .glo "_law_bag", .glo "_law_draw", .glo "_law_any", .glo "_law_mixed", .glo "_law_cells", .glo "_law_told"]
def fa2 : List He.Fa := [.glo "_law_part", .glo "_law_common", .glo "_law_rid", .glo "_law_tree_lots", .glo "_law_sections", .glo "_law_of_wholes", .glo "_law_shrunk", .glo "_law_some_cells", .glo "_law_possible", .glo "_law_tree_world", .glo "_law_ring_row", .glo "_law_star_row", .glo "_law_planted", .glo "_law_smooth", .glo "_law_tied", .glo "law", .int "MOST_OBSERVABLES" 6, .int "MOST_OUTCOMES" 4, .int "MOST_GLOBAL" 64, .free "isinstance"]
def fa3 : List He.Fa := [.free "int", .free "bool", .free "tuple", .free "list", .free "set", .free "len", .free "all", .free "any", .free "range", .free "zip", .free "enumerate", .free "sorted", .free "min", .free "max", .free "sum", .free "abs", .free "divmod", .free "repr"]
def faAll : List He.Fa := fa0 ++ (fa1 ++ (fa2 ++ (fa3)))
def loose0 : List PySem.Str := ["__name__", "is_whole", "is_between", "is_tuple_of", "MOST_OBSERVABLES", "MOST_OUTCOMES", "MOST_GLOBAL", "is_lot_of", "is_part", "product_of", "are_outcomes", "are_contexts", "is_scenario_by", "sections_by", "all_of", "globals_of", "part_of", "shared_by", "LabError", "InvalidScenario", "InvalidNumber", "InvalidSection", "InvalidSupport", "check_scenario", "check_between"]
def loose1 : List PySem.Str := ["is_section_of", "are_sections", "wrong_in_support", "told_parts", "are_matched", "is_consistent_by", "is_possible", "extending_by", "tells", "extensions_by", "lonely_by", "contextuality_by", "check_support", "is_consistent", "extending", "extension", "non_extending", "contextuality_of", "_law_bag", "_law_draw", "_law_any", "_law_mixed", "_law_cells", "_law_told", "_law_part"]
def loose2 : List PySem.Str := ["_law_common", "_law_rid", "_law_tree_lots", "_law_sections", "_law_of_wholes", "_law_shrunk", "_law_some_cells", "_law_possible", "_law_tree_world", "_law_ring_row", "_law_star_row", "_law_planted", "_law_smooth", "_law_tied"]
def looseAll : List PySem.Str := loose0 ++ (loose1 ++ (loose2))
theorem sw2_len {us ws : List Value} (h : (sw2 us ws).length = 2) : us = [] ∧ ∃ a b, ws = [a, b] := by
  match us, ws, h with
  | [], [a, b], _ => exact ⟨rfl, a, b, rfl⟩
  | _ :: _, _, h => simp [sw2] at h
  | [], [], h => simp [sw2] at h
  | [], [_], h => simp [sw2] at h
  | [], _ :: _ :: _ :: _, h => simp [sw2] at h
theorem st0_len {us ws : List Value} (h : (st0 us ws).length = 4) : us = [] ∧ ∃ a b c d, ws = [a, b, c, d] := by
  match us, ws, h with
  | [], [a, b, c, d], _ => exact ⟨rfl, a, b, c, d, rfl⟩
  | _ :: _, _, h => simp [st0] at h
  | [], [], h => simp [st0] at h
  | [], [_], h => simp [st0] at h
  | [], [_, _], h => simp [st0] at h
  | [], [_, _, _], h => simp [st0] at h
  | [], _ :: _ :: _ :: _ :: _ :: _, h => simp [st0] at h
section
variable {P : Program} {w : World} {K : PySem.W.Frag} {h : Heap} {mg : Str → Option Value}
theorem def_at (X : K.In h) (G : h.Ns mainGlobals mg) (c : He.SaysD faAll fnAll K) (i : Nat) {x : Str} {st : Stmt} {d : He.DefD} (hd : fnAll[i]? = some d) (hf : faAll[i]? = some (.glo x)) (e : d = ⟨(x, none), x, x, defArgs st, defBody st, defScope st, [], []⟩) : DefAt K mg x st := by
  obtain ⟨fd, F⟩ := c.def_ i hd
  subst e
  exact ⟨_, fd, F, He.glo_ok X G (c.fact i hf)⟩
theorem nb_of (X : K.In h) (G : h.Ns mainGlobals mg) (c : He.SaysD faAll fnAll K) : Nb mg where
  isinstance := He.free_ok X G (c.fact 59 (f := .free "isinstance") rfl)
  int := He.free_ok X G (c.fact 60 (f := .free "int") rfl)
  bool := He.free_ok X G (c.fact 61 (f := .free "bool") rfl)
  tuple := He.free_ok X G (c.fact 62 (f := .free "tuple") rfl)
  list := He.free_ok X G (c.fact 63 (f := .free "list") rfl)
  set := He.free_ok X G (c.fact 64 (f := .free "set") rfl)
  len := He.free_ok X G (c.fact 65 (f := .free "len") rfl)
  all := He.free_ok X G (c.fact 66 (f := .free "all") rfl)
  any := He.free_ok X G (c.fact 67 (f := .free "any") rfl)
  range := He.free_ok X G (c.fact 68 (f := .free "range") rfl)
  zip := He.free_ok X G (c.fact 69 (f := .free "zip") rfl)
  enumerate := He.free_ok X G (c.fact 70 (f := .free "enumerate") rfl)
  sorted := He.free_ok X G (c.fact 71 (f := .free "sorted") rfl)
  min := He.free_ok X G (c.fact 72 (f := .free "min") rfl)
  max := He.free_ok X G (c.fact 73 (f := .free "max") rfl)
  sum := He.free_ok X G (c.fact 74 (f := .free "sum") rfl)
  abs := He.free_ok X G (c.fact 75 (f := .free "abs") rfl)
  divmod := He.free_ok X G (c.fact 76 (f := .free "divmod") rfl)
  repr := He.free_ok X G (c.fact 77 (f := .free "repr") rfl)
theorem facts {f : Addr} (X : K.In h) (G : h.Ns mainGlobals mg) (hfa : mg ("law" : Str) = some (.ref f)) (c : He.SaysD faAll fnAll K) :
    ∃ fd : FuncData, (∀ (s : Shared) (v : Value), BindsTo s fd ⟨[v], []⟩ [("_law_script", v)]) ∧ ∀ base : Heap, K.In base → base.Ns mainGlobals mg → FnG P w K mg base 10 f fd ["_law_script"] (spLaw K) := by
  obtain ⟨fd, F⟩ := c.def_ 55 (d := d_law) rfl
  have e := hfa.symm.trans (He.glo_ok X G (c.fact 55 (f := .glo "law") rfl))
  cases e
  have b := FunD.bindsA (ps := ["_law_script"]) F fun _ _ _ _ _ _ us hl => match us, hl with | [_], _ => rfl
  refine ⟨fd, fun s v => b s [v] rfl, fun base _ _ => ?_⟩
  have B := nb_of X G c
  obtain ⟨t1, g1⟩ := He.int_ok X G (c.fact 56 (f := .int "MOST_OBSERVABLES" 6) rfl)
  obtain ⟨t2, g2⟩ := He.int_ok X G (c.fact 57 (f := .int "MOST_OUTCOMES" 4) rfl)
  obtain ⟨t3, g3⟩ := He.int_ok X G (c.fact 58 (f := .int "MOST_GLOBAL" 64) rfl)
  have D_is_whole : DefAt K mg "is_whole" s_is_whole := def_at X G c 0 (d := d_is_whole) rfl rfl rfl
  have D_is_between : DefAt K mg "is_between" s_is_between := def_at X G c 1 (d := d_is_between) rfl rfl rfl
  have D_is_tuple_of : DefAt K mg "is_tuple_of" s_is_tuple_of := def_at X G c 2 (d := d_is_tuple_of) rfl rfl rfl
  have D_is_lot_of : DefAt K mg "is_lot_of" s_is_lot_of := def_at X G c 3 (d := d_is_lot_of) rfl rfl rfl
  have D_is_part : DefAt K mg "is_part" s_is_part := def_at X G c 4 (d := d_is_part) rfl rfl rfl
  have D_product_of : DefAt K mg "product_of" s_product_of := def_at X G c 5 (d := d_product_of) rfl rfl rfl
  have D_are_outcomes : DefAt K mg "are_outcomes" s_are_outcomes := def_at X G c 6 (d := d_are_outcomes) rfl rfl rfl
  have D_are_contexts : DefAt K mg "are_contexts" s_are_contexts := def_at X G c 7 (d := d_are_contexts) rfl rfl rfl
  have D_is_scenario_by : DefAt K mg "is_scenario_by" s_is_scenario_by := def_at X G c 8 (d := d_is_scenario_by) rfl rfl rfl
  have D_sections_by : DefAt K mg "sections_by" s_sections_by := def_at X G c 9 (d := d_sections_by) rfl rfl rfl
  have D_all_of : DefAt K mg "all_of" s_all_of := def_at X G c 10 (d := d_all_of) rfl rfl rfl
  have D_globals_of : DefAt K mg "globals_of" s_globals_of := def_at X G c 11 (d := d_globals_of) rfl rfl rfl
  have D_part_of : DefAt K mg "part_of" s_part_of := def_at X G c 12 (d := d_part_of) rfl rfl rfl
  have D_shared_by : DefAt K mg "shared_by" s_shared_by := def_at X G c 13 (d := d_shared_by) rfl rfl rfl
  have D_check_scenario : DefAt K mg "check_scenario" s_check_scenario := def_at X G c 14 (d := d_check_scenario) rfl rfl rfl
  have D_check_between : DefAt K mg "check_between" s_check_between := def_at X G c 15 (d := d_check_between) rfl rfl rfl
  have D_is_section_of : DefAt K mg "is_section_of" s_is_section_of := def_at X G c 16 (d := d_is_section_of) rfl rfl rfl
  have D_are_sections : DefAt K mg "are_sections" s_are_sections := def_at X G c 17 (d := d_are_sections) rfl rfl rfl
  have D_wrong_in_support : DefAt K mg "wrong_in_support" s_wrong_in_support := def_at X G c 18 (d := d_wrong_in_support) rfl rfl rfl
  have D_told_parts : DefAt K mg "told_parts" s_told_parts := def_at X G c 19 (d := d_told_parts) rfl rfl rfl
  have D_are_matched : DefAt K mg "are_matched" s_are_matched := def_at X G c 20 (d := d_are_matched) rfl rfl rfl
  have D_is_consistent_by : DefAt K mg "is_consistent_by" s_is_consistent_by := def_at X G c 21 (d := d_is_consistent_by) rfl rfl rfl
  have D_is_possible : DefAt K mg "is_possible" s_is_possible := def_at X G c 22 (d := d_is_possible) rfl rfl rfl
  have D_extending_by : DefAt K mg "extending_by" s_extending_by := def_at X G c 23 (d := d_extending_by) rfl rfl rfl
  have D_tells : DefAt K mg "tells" s_tells := def_at X G c 24 (d := d_tells) rfl rfl rfl
  have D_extensions_by : DefAt K mg "extensions_by" s_extensions_by := def_at X G c 25 (d := d_extensions_by) rfl rfl rfl
  have D_lonely_by : DefAt K mg "lonely_by" s_lonely_by := def_at X G c 26 (d := d_lonely_by) rfl rfl rfl
  have D_contextuality_by : DefAt K mg "contextuality_by" s_contextuality_by := def_at X G c 27 (d := d_contextuality_by) rfl rfl rfl
  have D_check_support : DefAt K mg "check_support" s_check_support := def_at X G c 28 (d := d_check_support) rfl rfl rfl
  have D_is_consistent : DefAt K mg "is_consistent" s_is_consistent := def_at X G c 29 (d := d_is_consistent) rfl rfl rfl
  have D_extending : DefAt K mg "extending" s_extending := def_at X G c 30 (d := d_extending) rfl rfl rfl
  have D_extension : DefAt K mg "extension" s_extension := def_at X G c 31 (d := d_extension) rfl rfl rfl
  have D_non_extending : DefAt K mg "non_extending" s_non_extending := def_at X G c 32 (d := d_non_extending) rfl rfl rfl
  have D_contextuality_of : DefAt K mg "contextuality_of" s_contextuality_of := def_at X G c 33 (d := d_contextuality_of) rfl rfl rfl
  have D__law_bag : DefAt K mg "_law_bag" s__law_bag := def_at X G c 34 (d := d__law_bag) rfl rfl rfl
  have D__law_draw : DefAt K mg "_law_draw" s__law_draw := def_at X G c 35 (d := d__law_draw) rfl rfl rfl
  have D__law_any : DefAt K mg "_law_any" s__law_any := def_at X G c 36 (d := d__law_any) rfl rfl rfl
  have D__law_mixed : DefAt K mg "_law_mixed" s__law_mixed := def_at X G c 37 (d := d__law_mixed) rfl rfl rfl
  have D__law_cells : DefAt K mg "_law_cells" s__law_cells := def_at X G c 38 (d := d__law_cells) rfl rfl rfl
  have D__law_told : DefAt K mg "_law_told" s__law_told := def_at X G c 39 (d := d__law_told) rfl rfl rfl
  have D__law_part : DefAt K mg "_law_part" s__law_part := def_at X G c 40 (d := d__law_part) rfl rfl rfl
  have D__law_common : DefAt K mg "_law_common" s__law_common := def_at X G c 41 (d := d__law_common) rfl rfl rfl
  have D__law_rid : DefAt K mg "_law_rid" s__law_rid := def_at X G c 42 (d := d__law_rid) rfl rfl rfl
  have D__law_tree_lots : DefAt K mg "_law_tree_lots" s__law_tree_lots := def_at X G c 43 (d := d__law_tree_lots) rfl rfl rfl
  have D__law_sections : DefAt K mg "_law_sections" s__law_sections := def_at X G c 44 (d := d__law_sections) rfl rfl rfl
  have D__law_of_wholes : DefAt K mg "_law_of_wholes" s__law_of_wholes := def_at X G c 45 (d := d__law_of_wholes) rfl rfl rfl
  have D__law_shrunk : DefAt K mg "_law_shrunk" s__law_shrunk := def_at X G c 46 (d := d__law_shrunk) rfl rfl rfl
  have D__law_some_cells : DefAt K mg "_law_some_cells" s__law_some_cells := def_at X G c 47 (d := d__law_some_cells) rfl rfl rfl
  have D__law_possible : DefAt K mg "_law_possible" s__law_possible := def_at X G c 48 (d := d__law_possible) rfl rfl rfl
  have D__law_tree_world : DefAt K mg "_law_tree_world" s__law_tree_world := def_at X G c 49 (d := d__law_tree_world) rfl rfl rfl
  have D__law_ring_row : DefAt K mg "_law_ring_row" s__law_ring_row := def_at X G c 50 (d := d__law_ring_row) rfl rfl rfl
  have D__law_star_row : DefAt K mg "_law_star_row" s__law_star_row := def_at X G c 51 (d := d__law_star_row) rfl rfl rfl
  have D__law_planted : DefAt K mg "_law_planted" s__law_planted := def_at X G c 52 (d := d__law_planted) rfl rfl rfl
  have D__law_smooth : DefAt K mg "_law_smooth" s__law_smooth := def_at X G c 53 (d := d__law_smooth) rfl rfl rfl
  have D__law_tied : DefAt K mg "_law_tied" s__law_tied := def_at X G c 54 (d := d__law_tied) rfl rfl rfl
  have C_is_whole := p_is_whole (P := P) (w := w) (base := base) D_is_whole B
  have C_is_between := p_is_between (P := P) (w := w) (base := base) D_is_between C_is_whole
  have C_is_tuple_of := p_is_tuple_of (P := P) (w := w) (base := base) D_is_tuple_of B
  have C_is_lot_of := p_is_lot_of (P := P) (w := w) (base := base) D_is_lot_of B C_is_between
  have C_is_part := p_is_part (P := P) (w := w) (base := base) D_is_part B
  have C_product_of := p_product_of (P := P) (w := w) (base := base) D_product_of
  have C_are_outcomes := p_are_outcomes (P := P) (w := w) (base := base) D_are_outcomes B g1 g2 g3 C_is_between C_product_of
  have C_are_contexts := p_are_contexts (P := P) (w := w) (base := base) D_are_contexts B C_is_lot_of C_is_part
  have C_is_scenario_by := p_is_scenario_by (P := P) (w := w) (base := base) D_is_scenario_by B C_is_tuple_of C_are_outcomes C_are_contexts
  have C_sections_by := p_sections_by (P := P) (w := w) (base := base) D_sections_by B
  have C_all_of := p_all_of (P := P) (w := w) (base := base) D_all_of B
  have C_globals_of := p_globals_of (P := P) (w := w) (base := base) D_globals_of C_all_of C_sections_by
  have C_part_of := p_part_of (P := P) (w := w) (base := base) D_part_of B
  have C_shared_by := p_shared_by (P := P) (w := w) (base := base) D_shared_by B
  have C_check_scenario := p_check_scenario (P := P) (w := w) (base := base) D_check_scenario C_is_scenario_by
  have C_check_between := p_check_between (P := P) (w := w) (base := base) D_check_between C_is_between
  have C_is_section_of := p_is_section_of (P := P) (w := w) (base := base) D_is_section_of B C_is_tuple_of C_is_between
  have C_are_sections := p_are_sections (P := P) (w := w) (base := base) D_are_sections B C_is_section_of
  have C_wrong_in_support := p_wrong_in_support (P := P) (w := w) (base := base) D_wrong_in_support B C_is_tuple_of C_are_sections
  have C_told_parts := p_told_parts (P := P) (w := w) (base := base) D_told_parts B C_part_of
  have C_are_matched := p_are_matched (P := P) (w := w) (base := base) D_are_matched C_shared_by C_told_parts
  have C_is_consistent_by := p_is_consistent_by (P := P) (w := w) (base := base) D_is_consistent_by B C_are_matched
  have C_is_possible := p_is_possible (P := P) (w := w) (base := base) D_is_possible B C_all_of C_part_of
  have C_extending_by := p_extending_by (P := P) (w := w) (base := base) D_extending_by C_globals_of C_is_possible
  have C_tells := p_tells (P := P) (w := w) (base := base) D_tells C_all_of C_part_of
  have C_extensions_by := p_extensions_by (P := P) (w := w) (base := base) D_extensions_by C_extending_by C_tells
  have C_lonely_by := p_lonely_by (P := P) (w := w) (base := base) D_lonely_by B C_extensions_by
  have C_contextuality_by := p_contextuality_by (P := P) (w := w) (base := base) D_contextuality_by C_extending_by C_lonely_by
  have C_check_support := p_check_support (P := P) (w := w) (base := base) D_check_support C_check_scenario C_wrong_in_support
  have C_is_consistent := p_is_consistent (P := P) (w := w) (base := base) D_is_consistent C_check_support C_is_consistent_by
  have K_is_consistent := C_is_consistent.kw (ks := ["support", "scenario"]) (g := sw2) (gV := sw2) D_is_consistent (fun kV doc pm an cdv ct us ws hl => by
    obtain ⟨rfl, x, y, rfl⟩ := sw2_len hl
    rfl) sw2_rel
  have C_extending := p_extending (P := P) (w := w) (base := base) D_extending B C_check_support C_extending_by
  have C_extension := p_extension (P := P) (w := w) (base := base) D_extension B C_check_support C_check_between C_is_section_of C_extensions_by
  have K_extension := C_extension.kw (ks := ["scenario", "support", "context", "section"]) (g := st0) (gV := st0) D_extension (fun kV doc pm an cdv ct us ws hl => by
    obtain ⟨rfl, x, y, z, u, rfl⟩ := st0_len hl
    rfl) st0_rel
  have C_non_extending := p_non_extending (P := P) (w := w) (base := base) D_non_extending B C_check_support C_lonely_by
  have K_non_extending := C_non_extending.kw (ks := ["support", "scenario"]) (g := sw2) (gV := sw2) D_non_extending (fun kV doc pm an cdv ct us ws hl => by
    obtain ⟨rfl, x, y, rfl⟩ := sw2_len hl
    rfl) sw2_rel
  have C_contextuality_of := p_contextuality_of (P := P) (w := w) (base := base) D_contextuality_of C_check_support C_contextuality_by
  have K_contextuality_of := C_contextuality_of.kw (ks := ["support", "scenario"]) (g := sw2) (gV := sw2) D_contextuality_of (fun kV doc pm an cdv ct us ws hl => by
    obtain ⟨rfl, x, y, rfl⟩ := sw2_len hl
    rfl) sw2_rel
  have C__law_bag := p__law_bag (P := P) (w := w) (base := base) D__law_bag B
  have C__law_draw := p__law_draw (P := P) (w := w) (base := base) D__law_draw B
  have C__law_any := p__law_any (P := P) (w := w) (base := base) D__law_any B C__law_draw
  have C__law_mixed := p__law_mixed (P := P) (w := w) (base := base) D__law_mixed B C__law_draw
  have C__law_cells := p__law_cells (P := P) (w := w) (base := base) D__law_cells B
  have C__law_told := p__law_told (P := P) (w := w) (base := base) D__law_told B
  have C__law_part := p__law_part (P := P) (w := w) (base := base) D__law_part B
  have C__law_common := p__law_common (P := P) (w := w) (base := base) D__law_common B
  have C__law_rid := p__law_rid (P := P) (w := w) (base := base) D__law_rid B C__law_common
  have C__law_tree_lots := p__law_tree_lots (P := P) (w := w) (base := base) D__law_tree_lots B C__law_draw C__law_any C__law_mixed
  have C__law_sections := p__law_sections (P := P) (w := w) (base := base) D__law_sections C__law_cells
  have C__law_of_wholes := p__law_of_wholes (P := P) (w := w) (base := base) D__law_of_wholes B C__law_told
  have C__law_shrunk := p__law_shrunk (P := P) (w := w) (base := base) D__law_shrunk B C__law_common C__law_part
  have C__law_some_cells := p__law_some_cells (P := P) (w := w) (base := base) D__law_some_cells B C__law_draw C__law_any
  have C__law_possible := p__law_possible (P := P) (w := w) (base := base) D__law_possible B C__law_cells C__law_told
  have C__law_tree_world := p__law_tree_world (P := P) (w := w) (base := base) D__law_tree_world B C__law_draw C__law_tree_lots C__law_rid
  have C__law_ring_row := p__law_ring_row (P := P) (w := w) (base := base) D__law_ring_row B C__law_sections
  have C__law_star_row := p__law_star_row (P := P) (w := w) (base := base) D__law_star_row B C__law_sections
  have C__law_planted := p__law_planted (P := P) (w := w) (base := base) D__law_planted B C__law_draw C__law_any C__law_mixed C__law_rid C__law_ring_row C__law_star_row
  have C__law_smooth := p__law_smooth (P := P) (w := w) (base := base) D__law_smooth B C__law_tree_world C__law_some_cells C__law_sections C__law_any C__law_shrunk C__law_of_wholes C__law_cells C__law_possible C_is_consistent K_non_extending C_contextuality_of C_extending C_extension C__law_told
  have C__law_tied := p__law_tied (P := P) (w := w) (base := base) D__law_tied B C__law_planted K_is_consistent C_extending K_contextuality_of K_extension C_non_extending
  exact p_law F B C__law_bag C__law_smooth C__law_tied
end
end BT

/-! ## text L18 -/
set_option Elab.async false
set_option linter.all false
set_option maxRecDepth 100000
set_option maxHeartbeats 0
/-! L18: the run of the top, the row. -/
namespace BT
open PySem PySem.Spec PyProof.Rows L2 DL
abbrev theRow : PySem.W.OpenRow := PySem.W.OpenLaw.row PySem.Challenge.rw_belltables_k38_whole_consistent_supports
abbrev theHook : PySem.W.Hook := He.hookD 4 faAll fnAll
def theObs (s : PySem.W.SharedT) : He.AlD := He.obsDG 4 faAll fnAll (HandSHeadRun.getT s)
theorem theObs_eq (s : PySem.W.SharedT) : theObs s = theHook.obs s.abs := He.obsDG_eq (HandSHeadRun.getT_eq s)
theorem theRun (w : World) : HandSHeadRun.RunEq theRow (PySem.W.view theRow.prog [70]) theHook theObs 4000 looseAll w := by
  intro os
  kernel_rfl
end BT
open PySem PySem.W PySem.Calls PyProof.Rows
theorem PySem.Challenge.cw_belltables_k38_whole_consistent_supports_holds : PySem.Challenge.rw_belltables_k38_whole_consistent_supports.Holds := by
  w_on; o_law
  refine HandSHeadRun.head_any (r := OpenLaw.row PySem.Challenge.rw_belltables_k38_whole_consistent_supports) (q := view (OpenLaw.row PySem.Challenge.rw_belltables_k38_whole_consistent_supports).prog [70]) (H := BT.theHook) (ob := BT.theObs) (M := 4000) (loose := BT.looseAll) (d := HandSHeadRun.topDef (OpenLaw.row PySem.Challenge.rw_belltables_k38_whole_consistent_supports).prog 70) (kwd := []) BT.theObs_eq
    (by kernel_rfl) (fun s => by kernel_rfl) BT.theRun (by kernel_rfl) (by kernel_rfl) (by kernel_rfl) (by rfl) (by first | assumption | decide +kernel) (by decide +kernel) ⟨rfl, rfl, rfl, rfl, rfl, by decide +kernel⟩ ?hw ?hc
  case hw => w_witness2
  case hc =>
    refine DL.walk_ofG (l := PySem.Challenge.rw_belltables_k38_whole_consistent_supports) (n := 63) (k := 10) (x := "_law_script") rfl (by decide) (by kernel_rfl) ⟨rfl, by decide, by decide⟩ ?F
    intro w mg fa h Y G hmg0
    obtain ⟨K, KX, c⟩ := Y
    have hmg : mg ("law" : PySem.Str) = some (.ref fa) := by
      have e : (HandSHeadRun.topDef (OpenLaw.row PySem.Challenge.rw_belltables_k38_whole_consistent_supports).prog 70).name = ("law" : PySem.Str) := by kernel_rfl
      rw [← e]
      exact hmg0
    obtain ⟨fd, hb, hF⟩ := BT.facts (P := (PySem.Challenge.rw_belltables_k38_whole_consistent_supports).prog) (w := w) KX G hmg c
    exact ⟨K, fd, DL.spLaw K, KX, hb, fun H a ns hl hS => ⟨a, ns, rfl, hS, Nat.le_trans hl (by decide), fun _ => rfl⟩, hF⟩
