import PyProof.Rows.All
import HandS.ForMost
import HandS.Conv
import HandS.TupAny
import HandS.TupMul
import HandS.Zip
import HandS.Dict
import KE.SortData
import KE.DataMinMax
import KE.DataFind
import KE.DataCmp
import KE.GoesNew
import KE.DatumIndex
import KE.DataAny
import PySem.Challenge.RW_clearsheets_k42_whole_ways_that_are_alik
import HandS.Ends
set_option Elab.async false
set_option linter.all false
set_option maxRecDepth 100000
set_option maxHeartbeats 4000000
/-! ## KPure -/
/-! What the program computes, in plain Lean: no program in sight -/
namespace K42
/-- the order of lists: the first difference, else the shorter -/
def lexL {α : Type} [DecidableEq α] (lt : α → α → Bool) : List α → List α → Bool
  | [], [] => false
  | [], _ :: _ => true
  | _ :: _, [] => false
  | x :: xs, y :: ys => if x = y then lexL lt xs ys else lt x y
def ltN (a b : Nat) : Bool := decide (a < b)
abbrev Grp := List Nat
abbrev Tab := List Grp
def ltG : Grp → Grp → Bool := lexL ltN
def ltT : Tab → Tab → Bool := lexL ltG
def ltTs : List Tab → List Tab → Bool := lexL ltT
/-- sorted by an order -/
def sortBy {α : Type} (lt : α → α → Bool) (xs : List α) : List α := xs.mergeSort fun a b => !lt b a
/-- the first of the least -/
def minL {α : Type} (lt : α → α → Bool) (x : α) (xs : List α) : α := xs.foldl (fun a y => if lt y a then y else a) x
/-- all parts, not in order -/
def partsU : List Nat → List (List Nat) → List (List Nat)
  | [], acc => acc
  | h :: r, acc => partsU r (acc ++ acc.map (· ++ [h]))
def parts (g : List Nat) : List (List Nat) := sortBy ltG (partsU g [[]])
def groups (n : Nat) : List (List Nat) := parts (List.range n)
def isPart (g o : List Nat) : Bool := g.all fun h => o.contains h
structure Way where
  h : Nat
  odd : Bool
  tabs : List Tab
deriving DecidableEq
def meets (dot g : Grp) : Grp := dot.filter fun x => g.contains x
def isDark (odd : Bool) (dot g : Grp) : Bool := if odd then (meets dot g).length % 2 == 1 else decide (0 < (meets dot g).length)
def lightOf (odd : Bool) (t : Tab) (g : Grp) : Nat := (t.filter fun dot => !isDark odd dot g).length
def light (w : Way) (i : Nat) (g : Grp) : Nat := lightOf w.odd (w.tabs.getD i []) g
def cutOf (t : Tab) (g : Grp) : Tab := sortBy ltG (t.map fun dot => meets dot g)
/-- where a thing stands -/
def lotOf {α : Type} [DecidableEq α] (xs : List α) (x : α) : List Nat := (xs.zipIdx.filter fun q => decide (q.1 = x)).map (·.2)
def inLots {α : Type} [DecidableEq α] (xs : List α) : List (List Nat) := (xs.zipIdx.filter fun q => (lotOf xs q.1)[0]? == some q.2).map fun q => lotOf xs q.1
def told (w : Way) (g : Grp) : List (List Nat) := inLots (w.tabs.map fun t => cutOf t g)
def shown (w : Way) (g : Grp) : List (List Nat) := inLots (w.tabs.map fun t => lightOf w.odd t g)
def ltP (a b : Grp) : Bool := if a.length = b.length then ltG a b else decide (a.length < b.length)
def unlikeAll (w : Way) (i j : Nat) (g : Grp) : List Grp := (parts g).filter fun p => light w i p != light w j p
def unlikePart (w : Way) (i j : Nat) (g : Grp) : Option Grp := match unlikeAll w i j g with
  | [] => none
  | p :: ps => some (minL ltP p ps)
def isBlind (w : Way) (g : Grp) : Bool := (told w g).length == 1
def greatest (some : List Grp) : List Grp := some.filter fun own => !(some.any fun other => isPart own other && own != other)
def least (some : List Grp) : List Grp := some.filter fun own => !(some.any fun other => isPart other own && own != other)
def blind (w : Way) : List Grp := greatest ((groups w.h).filter fun g => isBlind w g)
def sighted (w : Way) : List Grp := least ((groups w.h).filter fun g => (told w g).length == w.tabs.length)
def sortedWay (h : Nat) (odd : Bool) (tabs : List Tab) : Way := ⟨h, odd, tabs.map (sortBy ltG)⟩
def beside (a b : Way) : Way := sortedWay a.h a.odd (List.zipWith (· ++ ·) a.tabs b.tabs)
def knownOf (odd : Bool) (lots : List Grp) (dot : Grp) : Grp := (lots.zipIdx.filter fun q => isDark odd dot q.1).map (·.2)
def merged (w : Way) (lots : List Grp) : Way := sortedWay lots.length w.odd (w.tabs.map fun t => t.map (knownOf w.odd lots))
def exch (w : Way) (o : List Nat) : Way := merged w (o.map fun x => [x])
def toned (w : Way) (ts : List Nat) : Way := ⟨w.h, w.odd, ts.map fun i => w.tabs.getD i []⟩
def longer (h : Nat) (row : List Nat) : List (List Nat) := ((List.range h).filter fun x => !row.contains x).map fun x => row ++ [x]
def ordersU (h : Nat) : Nat → List (List Nat)
  | 0 => [[]]
  | k + 1 => (ordersU h k).flatMap (longer h)
def orders (h : Nat) : List (List Nat) := ordersU h h
def likeness (a b : Way) : Option (List Nat) := (orders a.h).find? fun o => decide (exch a o = b)
def firstTabs (w : Way) : List Tab := match (orders w.h).map fun o => (exch w o).tabs with
  | [] => []
  | x :: xs => minL ltTs x xs
def firstForm (w : Way) : Way := ⟨w.h, w.odd, firstTabs w⟩
def swapped (h i j : Nat) : List Nat := ((List.range h).set i j).set j i
def equalLot (w : Way) (i : Nat) : List Nat := (List.range w.h).filter fun j => decide (exch w (swapped w.h i j) = w)
def equals (w : Way) : List (List Nat) := ((List.range w.h).filter fun i => (equalLot w i)[0]? == some i).map (equalLot w)
def tableBy (h : Nat) (ns : List Nat) : Tab := ((groups h).zip ns).flatMap fun q => List.replicate q.2 q.1
def rowOf (h : Nat) (t : Tab) : List Nat := (groups h).map fun g => t.count g
def minN : List Nat → Nat
  | [] => 0
  | x :: xs => minL ltN x xs
def commonOf (w : Way) : List Nat := (List.range (groups w.h).length).map fun at_ => minN ((w.tabs.map (rowOf w.h)).map fun row => row.getD at_ 0)
def lessOf (w : Way) : List (List Nat) := (w.tabs.map (rowOf w.h)).map fun row => (row.zip (commonOf w)).map fun q => q.1 - q.2
def slim (w : Way) : Way := if (commonOf w).sum = (w.tabs.getD 0 []).length then ⟨w.h, w.odd, List.replicate w.tabs.length [[]]⟩ else ⟨w.h, w.odd, (lessOf w).map (tableBy w.h)⟩
/-! the law's own -/
def led (o : List Nat) (g : Grp) : Grp := sortBy ltN (g.map fun x => o.getD x 0)
def back (o : List Nat) (lots : List Grp) : List Grp := sortBy ltG (lots.map fun lot => sortBy ltN (lot.map fun x => o.idxOf x))
end K42
/-! ## KMathA -/
/-! The mathematics: orders, sorting, groups, exchanges of names -/
namespace K42
/-! ### total orders -/
structure TO {α : Type} (lt : α → α → Bool) : Prop where
  irr : ∀ a, lt a a = false
  tr : ∀ a b c, lt a b = true → lt b c = true → lt a c = true
  tot : ∀ a b, a ≠ b → lt a b = true ∨ lt b a = true
section
variable {α : Type} {lt : α → α → Bool}
theorem TO.asym (T : TO lt) {a b : α} (h : lt a b = true) : lt b a = false := by
  cases q : lt b a with
  | false => rfl
  | true =>
    have := T.tr a b a h q
    rw [T.irr] at this
    cases this
theorem TO.ltN : TO ltN := ⟨fun a => by unfold K42.ltN; simp, fun a b c h1 h2 => by
    unfold K42.ltN at *
    rw [decide_eq_true_eq] at *
    omega, fun a b h => by
    unfold K42.ltN
    rw [decide_eq_true_eq, decide_eq_true_eq]
    omega⟩
theorem TO.lex [DecidableEq α] (T : TO lt) : TO (lexL lt) where
  irr := fun a => by
    induction a with
    | nil => rfl
    | cons x xs ih => rw [lexL, if_pos rfl]; exact ih
  tr := fun a => by
    induction a with
    | nil =>
      intro b c h1 h2
      cases b with
      | nil => cases h1
      | cons y ys =>
        cases c with
        | nil => cases h2
        | cons z zs => rfl
    | cons x xs ih =>
      intro b c h1 h2
      cases b with
      | nil => cases h1
      | cons y ys =>
        cases c with
        | nil => cases h2
        | cons z zs =>
          rw [lexL] at h1 h2 ⊢
          by_cases e1 : x = y
          · subst e1
            rw [if_pos rfl] at h1
            by_cases e2 : x = z
            · subst e2
              rw [if_pos rfl] at h2 ⊢
              exact ih ys zs h1 h2
            · rw [if_neg e2] at h2 ⊢
              exact h2
          · rw [if_neg e1] at h1
            by_cases e2 : y = z
            · subst e2
              rw [if_neg e1]
              exact h1
            · rw [if_neg e2] at h2
              have h3 := T.tr _ _ _ h1 h2
              have : x ≠ z := fun e => by
                subst e
                rw [T.irr] at h3
                cases h3
              rw [if_neg this]
              exact h3
  tot := fun a => by
    induction a with
    | nil =>
      intro b h
      cases b with
      | nil => exact absurd rfl h
      | cons y ys => exact .inl rfl
    | cons x xs ih =>
      intro b h
      cases b with
      | nil => exact .inr rfl
      | cons y ys =>
        rw [lexL, lexL]
        by_cases e : x = y
        · subst e
          rw [if_pos rfl, if_pos rfl]
          exact ih ys fun z => h (by rw [z])
        · rw [if_neg e, if_neg (fun z => e z.symm)]
          exact T.tot _ _ e
theorem TO.ltG : TO ltG := TO.ltN.lex
theorem TO.ltT : TO ltT := TO.ltG.lex
theorem TO.ltTs : TO ltTs := TO.ltT.lex
/-! ### sorting -/
abbrev Le (lt : α → α → Bool) (a b : α) : Prop := (!lt b a) = true
theorem TO.le_tr (T : TO lt) (a b c : α) (h1 : (!lt b a) = true) (h2 : (!lt c b) = true) : (!lt c a) = true := by
  rw [Bool.not_eq_true'] at *
  cases q : lt c a with
  | false => rfl
  | true =>
    by_cases e : a = b
    · subst e
      rw [h2] at q
      cases q
    · rcases T.tot a b e with h | h
      · rw [T.tr c a b q h] at h2; cases h2
      · rw [h] at h1; cases h1
theorem TO.le_tot (T : TO lt) (a b : α) : ((!lt b a) || (!lt a b)) = true := by
  cases q : lt b a with
  | false => rfl
  | true => rw [T.asym q]; rfl
theorem TO.le_anti (T : TO lt) {a b : α} (h1 : Le lt a b) (h2 : Le lt b a) : a = b := by
  unfold Le at h1 h2
  rw [Bool.not_eq_true'] at h1 h2
  by_cases e : a = b
  · exact e
  · rcases T.tot a b e with h | h
    · rw [h] at h2; cases h2
    · rw [h] at h1; cases h1
theorem sort_perm (xs : List α) : (sortBy lt xs).Perm xs := List.mergeSort_perm _ _
theorem sort_pw (T : TO lt) (xs : List α) : (sortBy lt xs).Pairwise (Le lt) := List.pairwise_mergeSort T.le_tr T.le_tot xs
theorem pw_eq (T : TO lt) {xs ys : List α} (h1 : xs.Pairwise (Le lt)) (h2 : ys.Pairwise (Le lt)) (h : xs.Perm ys) : xs = ys :=
  List.Perm.eq_of_pairwise (fun a b _ _ h1 h2 => T.le_anti h1 h2) h1 h2 h
theorem sort_eq (T : TO lt) {xs ys : List α} (h : xs.Perm ys) : sortBy lt xs = sortBy lt ys :=
  pw_eq T (sort_pw T xs) (sort_pw T ys) ((sort_perm xs).trans (h.trans (sort_perm ys).symm))
theorem sort_iff (T : TO lt) {xs ys : List α} : sortBy lt xs = sortBy lt ys ↔ xs.Perm ys :=
  ⟨fun h => (sort_perm xs).symm.trans (h ▸ sort_perm ys), sort_eq T⟩
theorem sort_id (T : TO lt) {xs : List α} (h : xs.Pairwise (Le lt)) : sortBy lt xs = xs := pw_eq T (sort_pw T xs) h (sort_perm xs)
theorem sort_sort (T : TO lt) (xs : List α) : sortBy lt (sortBy lt xs) = sortBy lt xs := sort_eq T (sort_perm xs)
theorem sort_mem {xs : List α} {x : α} : x ∈ sortBy lt xs ↔ x ∈ xs := (sort_perm xs).mem_iff
theorem sort_len (xs : List α) : (sortBy lt xs).length = xs.length := (sort_perm xs).length_eq
/-- strict where nothing stands twice -/
theorem pw_strict (T : TO lt) : ∀ {xs : List α}, xs.Nodup → xs.Pairwise (Le lt) → xs.Pairwise fun a b => lt a b = true
  | [], _, _ => .nil
  | x :: xs, hn, h => by
    rw [List.nodup_cons] at hn
    rw [List.pairwise_cons] at h
    refine .cons (fun y hy => ?_) (pw_strict T hn.2 h.2)
    have h1 := h.1 y hy
    unfold Le at h1
    rw [Bool.not_eq_true'] at h1
    rcases T.tot x y (fun e => hn.1 (by rw [e]; exact hy)) with q | q
    · exact q
    · rw [h1] at q; cases q
theorem pw_le (T : TO lt) {xs : List α} (h : xs.Pairwise fun a b => lt a b = true) : xs.Pairwise (Le lt) := h.imp fun {a b} q => by
  unfold Le
  rw [T.asym q]
  rfl
theorem pw_nodup (T : TO lt) {xs : List α} (h : xs.Pairwise fun a b => lt a b = true) : xs.Nodup := h.imp fun {a b} q e => by
  subst e
  rw [T.irr] at q
  cases q
/-- two sorted lists without repeats of the same things -/
theorem strict_ext (T : TO lt) {xs ys : List α} (h1 : xs.Pairwise fun a b => lt a b = true) (h2 : ys.Pairwise fun a b => lt a b = true) (h : ∀ x, x ∈ xs ↔ x ∈ ys) : xs = ys :=
  pw_eq T (pw_le T h1) (pw_le T h2) ((List.perm_ext_iff_of_nodup (pw_nodup T h1) (pw_nodup T h2)).mpr h)
end
/-! ### ascending lists -/
def Asc (g : Grp) : Prop := g.Pairwise fun a b => ltN a b = true
theorem asc_lt {g : Grp} : Asc g ↔ g.Pairwise (· < ·) := by
  unfold Asc ltN
  constructor
  · exact fun h => h.imp fun {a b} q => of_decide_eq_true q
  · exact fun h => h.imp fun {a b} q => decide_eq_true q
theorem Asc.nodup {g : Grp} (h : Asc g) : g.Nodup := pw_nodup TO.ltN h
theorem asc_ext {a b : Grp} (h1 : Asc a) (h2 : Asc b) (h : ∀ x, x ∈ a ↔ x ∈ b) : a = b := strict_ext TO.ltN h1 h2 h
theorem asc_sort {g : Grp} (h : g.Nodup) : Asc (sortBy ltN g) := pw_strict TO.ltN ((sort_perm g).nodup_iff.mpr h) (sort_pw TO.ltN g)
theorem asc_range (n : Nat) : Asc (List.range n) := asc_lt.mpr List.pairwise_lt_range
theorem Asc.filter {g : Grp} (h : Asc g) (p : Nat → Bool) : Asc (g.filter p) := List.Pairwise.filter p h
/-! ### parts, groups -/
theorem mem_partsU : ∀ (g : List Nat) (acc : List (List Nat)) (p : List Nat), p ∈ partsU g acc ↔ ∃ q ∈ acc, ∃ s, s.Sublist g ∧ p = q ++ s
  | [], acc, p => by
    constructor
    · exact fun h => ⟨p, h, [], .slnil, by rw [List.append_nil]⟩
    · rintro ⟨q, hq, s, hs, rfl⟩
      rw [List.sublist_nil.mp hs, List.append_nil]
      exact hq
  | x :: r, acc, p => by
    show p ∈ partsU r (acc ++ acc.map (· ++ [x])) ↔ _
    rw [mem_partsU r]
    constructor
    · rintro ⟨q, hq, s, hs, rfl⟩
      rcases List.mem_append.mp hq with hq | hq
      · exact ⟨q, hq, s, hs.cons x, rfl⟩
      · obtain ⟨q', hq', rfl⟩ := List.mem_map.mp hq
        exact ⟨q', hq', x :: s, hs.cons₂ x, by simp⟩
    · rintro ⟨q, hq, s, hs, rfl⟩
      cases hs with
      | cons _ hs => exact ⟨q, List.mem_append_left _ hq, s, hs, rfl⟩
      | cons_cons _ hs => exact ⟨q ++ [x], List.mem_append_right _ (List.mem_map.mpr ⟨q, hq, rfl⟩), _, hs, by simp⟩
theorem mem_parts {g p : List Nat} : p ∈ parts g ↔ p.Sublist g := by
  unfold parts
  rw [sort_mem, mem_partsU]
  constructor
  · rintro ⟨q, hq, s, hs, rfl⟩
    rw [List.mem_singleton.mp hq]
    exact hs
  · exact fun h => ⟨[], List.mem_singleton.mpr rfl, p, h, rfl⟩
theorem asc_sub {g p : Grp} (h : Asc g) : p.Sublist g ↔ Asc p ∧ ∀ x ∈ p, x ∈ g := by
  constructor
  · exact fun s => ⟨List.Pairwise.sublist s h, fun x hx => s.subset hx⟩
  · rintro ⟨h1, h2⟩
    have : p = g.filter fun x => p.contains x := asc_ext h1 (h.filter _) fun x => by
      rw [List.mem_filter, List.contains_iff_mem]
      exact ⟨fun q => ⟨h2 x q, q⟩, fun q => q.2⟩
    rw [this]
    exact List.filter_sublist
theorem mem_groups {h : Nat} {g : Grp} : g ∈ groups h ↔ Asc g ∧ ∀ x ∈ g, x < h := by
  unfold groups
  rw [mem_parts, asc_sub (asc_range h)]
  exact ⟨fun ⟨a, b⟩ => ⟨a, fun x hx => List.mem_range.mp (b x hx)⟩, fun ⟨a, b⟩ => ⟨a, fun x hx => List.mem_range.mpr (b x hx)⟩⟩
theorem nodup_partsU : ∀ (g : List Nat) (acc : List (List Nat)), g.Nodup → acc.Nodup → (∀ q ∈ acc, ∀ x ∈ g, x ∉ q) → (partsU g acc).Nodup
  | [], acc, _, h, _ => h
  | x :: r, acc, hg, ha, hd => by
    show (partsU r (acc ++ acc.map (· ++ [x]))).Nodup
    rw [List.nodup_cons] at hg
    refine nodup_partsU r _ hg.2 ?_ ?_
    · rw [List.nodup_append]
      refine ⟨ha, ?_, fun a h1 b h2 e => ?_⟩
      · unfold List.Nodup
        rw [List.pairwise_map]
        exact ha.imp fun {a b} q e => q (List.append_cancel_right e)
      · subst e
        obtain ⟨q, hq, rfl⟩ := List.mem_map.mp h2
        exact hd _ h1 x List.mem_cons_self (List.mem_append_right _ List.mem_cons_self)
    · intro q hq y hy hyq
      rcases List.mem_append.mp hq with hq | hq
      · exact hd q hq y (List.mem_cons_of_mem _ hy) hyq
      · obtain ⟨q', hq', rfl⟩ := List.mem_map.mp hq
        rcases List.mem_append.mp hyq with h | h
        · exact hd q' hq' y (List.mem_cons_of_mem _ hy) h
        · rw [List.mem_singleton.mp h] at hy
          exact hg.1 hy
theorem parts_nodup {g : Grp} (h : g.Nodup) : (parts g).Nodup := by
  unfold parts
  rw [(sort_perm _).nodup_iff]
  exact nodup_partsU g [[]] h (by simp) (fun q hq x _ hx => by rw [List.mem_singleton.mp hq] at hx; cases hx)
theorem groups_nodup (h : Nat) : (groups h).Nodup := parts_nodup List.nodup_range
theorem groups_pw (h : Nat) : (groups h).Pairwise fun a b => ltG a b = true := pw_strict TO.ltG (groups_nodup h) (sort_pw TO.ltG _)
/-! ### where things stand -/
theorem zipIdx_range {α : Type} (d : α) (xs : List α) : xs.zipIdx = (List.range xs.length).map fun i => (xs.getD i d, i) := by
  refine List.ext_getElem? fun i => ?_
  rw [List.getElem?_zipIdx, List.getElem?_map]
  by_cases hi : i < xs.length
  · rw [List.getElem?_range hi, List.getElem?_eq_getElem hi, Option.map_some, Option.map_some, List.getD_eq_getElem?_getD, List.getElem?_eq_getElem hi, Nat.zero_add]
    rfl
  · rw [List.getElem?_eq_none (by omega), List.getElem?_eq_none (by rw [List.length_range]; omega)]
    rfl
theorem idx_filter {α : Type} (d : α) (p : α → Bool) (xs : List α) : (xs.zipIdx.filter fun q => p q.1).map (·.2) = (List.range xs.length).filter fun i => p (xs.getD i d) := by
  rw [zipIdx_range d, List.filter_map, List.map_map]
  exact (List.map_congr_left (g := id) fun i _ => rfl).trans (List.map_id _)
/-- lots hang on what is alike alone -/
theorem inLots_alike {α β γ : Type} [DecidableEq β] [DecidableEq γ] {f : α → β} {g : α → γ} {xs : List α} (h : ∀ a ∈ xs, ∀ b ∈ xs, f a = f b ↔ g a = g b) : inLots (xs.map f) = inLots (xs.map g) := by
  have key : ∀ {δ : Type} [DecidableEq δ] (k : α → δ), inLots (xs.map k) = (xs.zipIdx.filter fun q => ((xs.zipIdx.filter fun r => decide (k r.1 = k q.1)).map (·.2))[0]? == some q.2).map fun q => (xs.zipIdx.filter fun r => decide (k r.1 = k q.1)).map (·.2) := by
    intro δ _ k
    unfold inLots lotOf
    rw [List.zipIdx_map]
    simp only [List.filter_map, List.map_map]
    rfl
  rw [key f, key g]
  have mem : ∀ q ∈ xs.zipIdx, q.1 ∈ xs := fun q hq => by
    obtain ⟨x, i⟩ := q
    exact List.mem_of_getElem? (List.mem_zipIdx_iff_getElem?.mp hq)
  have lot : ∀ q ∈ xs.zipIdx, (xs.zipIdx.filter fun r => decide (f r.1 = f q.1)) = xs.zipIdx.filter fun r => decide (g r.1 = g q.1) := fun q hq =>
    List.filter_congr fun r hr => decide_eq_decide.mpr (h _ (mem r hr) _ (mem q hq))
  rw [List.filter_congr fun q hq => by rw [lot q hq]]
  exact List.map_congr_left fun q hq => by rw [lot q (List.mem_filter.mp hq).1]
end K42
/-! ## KMathB -/
namespace K42
/-! ### exchanges of names -/
def pull (o : List Nat) (d : Grp) : Grp := (List.range o.length).filter fun i => d.contains (o.getD i 0)
def comp (o m : List Nat) : List Nat := m.map fun i => o.getD i 0
def Pm (h : Nat) (o : List Nat) : Prop := o.Perm (List.range h)
theorem getD_lt {o : List Nat} {i : Nat} (h : i < o.length) : o.getD i 0 = o[i] := by
  rw [List.getD_eq_getElem?_getD, List.getElem?_eq_getElem h]
  rfl
theorem list_getD (o : List Nat) : (List.range o.length).map (fun i => o.getD i 0) = o := by
  refine List.ext_getElem? fun i => ?_
  rw [List.getElem?_map]
  by_cases hi : i < o.length
  · rw [List.getElem?_range hi, Option.map_some, getD_lt hi, List.getElem?_eq_getElem hi]
  · rw [List.getElem?_eq_none (by rw [List.length_range]; omega), List.getElem?_eq_none (by omega)]
    rfl
theorem ext_getD {a b : List Nat} (h : a.length = b.length) (q : ∀ i, i < a.length → a.getD i 0 = b.getD i 0) : a = b := by
  rw [← list_getD a, ← list_getD b, ← h]
  exact List.map_congr_left fun i hi => q i (List.mem_range.mp hi)
section
variable {h : Nat} {o m : List Nat}
theorem Pm.len (P : Pm h o) : o.length = h := by rw [P.length_eq, List.length_range]
theorem Pm.nodup (P : Pm h o) : o.Nodup := P.nodup_iff.mpr List.nodup_range
theorem Pm.mem (P : Pm h o) {x : Nat} : x ∈ o ↔ x < h := by rw [P.mem_iff, List.mem_range]
theorem Pm.lt (P : Pm h o) {i : Nat} (hi : i < h) : o.getD i 0 < h := by
  rw [getD_lt (by rw [P.len]; exact hi)]
  exact P.mem.mp (List.getElem_mem _)
theorem Pm.idx (P : Pm h o) {i : Nat} (hi : i < h) : o.idxOf (o.getD i 0) = i := by
  rw [getD_lt (by rw [P.len]; exact hi)]
  exact P.nodup.idxOf_getElem i _
theorem Pm.inj (P : Pm h o) {i j : Nat} (hi : i < h) (hj : j < h) (e : o.getD i 0 = o.getD j 0) : i = j := by
  rw [← P.idx hi, ← P.idx hj, e]
theorem Pm.idx_lt (P : Pm h o) {y : Nat} (hy : y < h) : o.idxOf y < h := by
  rw [← P.len]
  exact List.idxOf_lt_length_of_mem (P.mem.mpr hy)
theorem Pm.at_idx (P : Pm h o) {y : Nat} (hy : y < h) : o.getD (o.idxOf y) 0 = y := by
  have := P.idx_lt hy
  rw [getD_lt (by rw [P.len]; exact this)]
  exact List.getElem_idxOf _
theorem Pm.range (h : Nat) : Pm h (List.range h) := List.Perm.refl _
/-- a list that has an inverse -/
theorem pm_of {f : Nat → Nat} (hl : o.length = h) (h1 : ∀ x, x < h → o.getD x 0 < h) (h2 : ∀ x, x < h → f (o.getD x 0) = x) (h3 : ∀ y, y < h → f y < h ∧ o.getD (f y) 0 = y) : Pm h o := by
  have e : o = (List.range h).map fun i => o.getD i 0 := by rw [← hl]; exact (list_getD o).symm
  have nd : o.Nodup := by
    rw [e]
    unfold List.Nodup
    rw [List.pairwise_map]
    exact List.Pairwise.imp_of_mem (fun {a b} ha hb q z => by
      have := congrArg f z
      rw [h2 a (List.mem_range.mp ha), h2 b (List.mem_range.mp hb)] at this
      exact q this) (List.nodup_range (n := h))
  refine (List.perm_ext_iff_of_nodup nd List.nodup_range).mpr fun x => ?_
  rw [List.mem_range]
  constructor
  · intro hx
    rw [e] at hx
    obtain ⟨i, hi, rfl⟩ := List.mem_map.mp hx
    exact h1 i (List.mem_range.mp hi)
  · intro hx
    obtain ⟨q1, q2⟩ := h3 x hx
    rw [← q2, getD_lt (by rw [hl]; exact q1)]
    exact List.getElem_mem _
theorem comp_len : (comp o m).length = m.length := List.length_map _
theorem comp_at {i : Nat} (hi : i < m.length) : (comp o m).getD i 0 = o.getD (m.getD i 0) 0 := by
  rw [getD_lt (by rw [comp_len]; exact hi), getD_lt hi]
  unfold comp
  rw [List.getElem_map]
theorem Pm.comp (P : Pm h o) (M : Pm h m) : Pm h (comp o m) := by
  unfold K42.comp Pm
  refine (M.map _).trans ?_
  rw [← P.len, list_getD]
  rw [P.len]
  exact P
def inv (h : Nat) (o : List Nat) : List Nat := (List.range h).map fun y => o.idxOf y
theorem inv_at {y : Nat} (hy : y < h) : (inv h o).getD y 0 = o.idxOf y := by
  unfold inv
  rw [getD_lt (by rw [List.length_map, List.length_range]; exact hy), List.getElem_map, List.getElem_range]
theorem inv_len : (inv h o).length = h := by unfold inv; rw [List.length_map, List.length_range]
theorem Pm.inv (P : Pm h o) : Pm h (inv h o) := by
  refine pm_of (f := fun x => o.getD x 0) inv_len (fun x hx => ?_) (fun x hx => ?_) fun y hy => ⟨P.lt hy, ?_⟩
  · rw [inv_at hx]; exact P.idx_lt hx
  · rw [inv_at hx]; exact P.at_idx hx
  · rw [inv_at (P.lt hy)]; exact P.idx hy
theorem comp_inv (P : Pm h o) : comp o (inv h o) = List.range h := by
  refine ext_getD (by rw [comp_len, inv_len, List.length_range]) fun i hi => ?_
  rw [comp_len, inv_len] at hi
  rw [comp_at (by rw [inv_len]; exact hi), inv_at hi, P.at_idx hi, getD_lt (by rw [List.length_range]; exact hi), List.getElem_range]
theorem range_at {i : Nat} (hi : i < h) : (List.range h).getD i 0 = i := by rw [getD_lt (by rw [List.length_range]; exact hi), List.getElem_range]
theorem comp_range (M : Pm h m) : comp (List.range h) m = m := by
  refine ext_getD comp_len fun i hi => ?_
  rw [comp_len] at hi
  rw [comp_at hi, range_at (M.lt (by rw [← M.len]; exact hi))]
theorem comp_assoc {a b c : List Nat} (B : Pm h b) (C : Pm h c) : comp (comp a b) c = comp a (comp b c) := by
  refine ext_getD (by rw [comp_len, comp_len, comp_len]) fun i hi => ?_
  rw [comp_len] at hi
  have hi' : i < h := by rw [← C.len]; exact hi
  rw [comp_at hi, comp_at (by rw [B.len]; exact C.lt hi'), comp_at (by rw [comp_len]; exact hi), comp_at hi]
/-! ### groups behind an exchange -/
theorem mem_pull {d : Grp} {x : Nat} : x ∈ pull o d ↔ x < o.length ∧ o.getD x 0 ∈ d := by
  unfold pull
  rw [List.mem_filter, List.mem_range, List.contains_iff_mem]
theorem pull_asc {d : Grp} : Asc (pull o d) := (asc_range _).filter _
theorem pull_grp (P : Pm h o) {d : Grp} : pull o d ∈ groups h := mem_groups.mpr ⟨pull_asc, fun x hx => by rw [← P.len]; exact (mem_pull.mp hx).1⟩
theorem dark_one {odd : Bool} {d : Grp} (hd : d.Nodup) (x : Nat) : isDark odd d [x] = d.contains x := by
  have hl : (meets d [x]).length = if x ∈ d then 1 else 0 := by
    unfold meets
    rw [← hd.count, ← List.countP_eq_length_filter]
    unfold List.count
    refine List.countP_congr fun y _ => ?_
    simp
  unfold isDark
  by_cases hx : x ∈ d
  · rw [hl, if_pos hx, List.contains_iff_mem.mpr hx]
    cases odd <;> rfl
  · rw [hl, if_neg hx]
    have : d.contains x = false := by
      cases q : d.contains x with
      | false => rfl
      | true => exact absurd (List.contains_iff_mem.mp q) hx
    rw [this]
    cases odd <;> rfl
theorem known_pull {odd : Bool} {d : Grp} (hd : d.Nodup) : knownOf odd (o.map fun x => [x]) d = pull o d := by
  unfold knownOf pull
  rw [idx_filter [0] (fun g => isDark odd d g), List.length_map]
  refine List.filter_congr fun i hi => ?_
  have hi := List.mem_range.mp hi
  have : (o.map fun x => [x]).getD i [0] = [o.getD i 0] := by
    rw [List.getD_eq_getElem?_getD, List.getElem?_map, List.getElem?_eq_getElem hi, getD_lt hi]
    rfl
  rw [this, dark_one hd]
theorem led_nodup (P : Pm h o) {g : Grp} (hg : g ∈ groups h) : (g.map fun x => o.getD x 0).Nodup := by
  obtain ⟨ga, gl⟩ := mem_groups.mp hg
  unfold List.Nodup
  rw [List.pairwise_map]
  exact List.Pairwise.imp_of_mem (fun {a b} ha hb q z => q (P.inj (gl a ha) (gl b hb) z)) ga.nodup
theorem mem_led {g : Grp} {y : Nat} : y ∈ led o g ↔ ∃ x ∈ g, o.getD x 0 = y := by
  unfold led
  rw [sort_mem, List.mem_map]
theorem led_grp (P : Pm h o) {g : Grp} (hg : g ∈ groups h) : led o g ∈ groups h := by
  refine mem_groups.mpr ⟨asc_sort (led_nodup P hg), fun y hy => ?_⟩
  obtain ⟨x, hx, rfl⟩ := mem_led.mp hy
  exact P.lt ((mem_groups.mp hg).2 x hx)
theorem led_len (o : List Nat) (g : Grp) : (led o g).length = g.length := by
  unfold led
  rw [sort_len, List.length_map]
theorem at_led (P : Pm h o) {g : Grp} (hg : g ∈ groups h) {x : Nat} (hx : x < h) : o.getD x 0 ∈ led o g ↔ x ∈ g := by
  rw [mem_led]
  constructor
  · rintro ⟨y, hy, e⟩
    rw [← P.inj ((mem_groups.mp hg).2 y hy) hx e]
    exact hy
  · exact fun hg => ⟨x, hg, rfl⟩
theorem led_pull (P : Pm h o) {b : Grp} (hb : b ∈ groups h) : led o (pull o b) = b := by
  refine asc_ext (mem_groups.mp (led_grp P (pull_grp P))).1 (mem_groups.mp hb).1 fun y => ?_
  rw [mem_led]
  constructor
  · rintro ⟨x, hx, rfl⟩
    exact (mem_pull.mp hx).2
  · intro hy
    have hyl := (mem_groups.mp hb).2 y hy
    exact ⟨o.idxOf y, mem_pull.mpr ⟨by rw [P.len]; exact P.idx_lt hyl, by rw [P.at_idx hyl]; exact hy⟩, P.at_idx hyl⟩
theorem pull_led (P : Pm h o) {g : Grp} (hg : g ∈ groups h) : pull o (led o g) = g := by
  refine asc_ext pull_asc (mem_groups.mp hg).1 fun x => ?_
  rw [mem_pull, P.len]
  constructor
  · rintro ⟨h1, h2⟩
    exact (at_led P hg h1).mp h2
  · intro hx
    have := (mem_groups.mp hg).2 x hx
    exact ⟨this, (at_led P hg this).mpr hx⟩
theorem pull_len (P : Pm h o) {d : Grp} (hd : d ∈ groups h) : (pull o d).length = d.length := by
  have := led_len o (pull o d)
  rw [led_pull P hd] at this
  exact this.symm
theorem mem_meets {d g : Grp} {x : Nat} : x ∈ meets d g ↔ x ∈ d ∧ x ∈ g := by
  unfold meets
  rw [List.mem_filter, List.contains_iff_mem]
theorem meets_grp {d g : Grp} (hd : d ∈ groups h) : meets d g ∈ groups h :=
  mem_groups.mpr ⟨(mem_groups.mp hd).1.filter _, fun x hx => (mem_groups.mp hd).2 x (mem_meets.mp hx).1⟩
theorem meets_pull (P : Pm h o) {d g : Grp} (hd : d ∈ groups h) (hg : g ∈ groups h) : meets (pull o d) g = pull o (meets d (led o g)) := by
  refine asc_ext (pull_asc.filter _) pull_asc fun x => ?_
  rw [mem_meets, mem_pull, mem_pull, mem_meets]
  constructor
  · rintro ⟨⟨h1, h2⟩, h3⟩
    exact ⟨h1, h2, (at_led P hg (by rw [← P.len]; exact h1)).mpr h3⟩
  · rintro ⟨h1, h2, h3⟩
    exact ⟨⟨h1, h2⟩, (at_led P hg (by rw [← P.len]; exact h1)).mp h3⟩
theorem dark_pull (P : Pm h o) {odd : Bool} {d g : Grp} (hd : d ∈ groups h) (hg : g ∈ groups h) : isDark odd (pull o d) g = isDark odd d (led o g) := by
  unfold isDark
  rw [meets_pull P hd hg, pull_len P (meets_grp hd)]
theorem pull_pull {a b : List Nat} (A : Pm h a) (B : Pm h b) (d : Grp) : pull b (pull a d) = pull (comp a b) d := by
  refine asc_ext pull_asc pull_asc fun x => ?_
  rw [mem_pull, mem_pull, mem_pull, comp_len]
  constructor
  · rintro ⟨h1, h2, h3⟩
    exact ⟨h1, by rw [comp_at h1]; exact h3⟩
  · rintro ⟨h1, h2⟩
    rw [comp_at h1] at h2
    exact ⟨h1, by rw [A.len]; exact B.lt (by rw [← B.len]; exact h1), h2⟩
theorem pull_range {d : Grp} (hd : d ∈ groups h) : pull (List.range h) d = d := by
  refine asc_ext pull_asc (mem_groups.mp hd).1 fun x => ?_
  rw [mem_pull, List.length_range]
  constructor
  · rintro ⟨h1, h2⟩
    rw [range_at h1] at h2
    exact h2
  · intro hx
    have := (mem_groups.mp hd).2 x hx
    exact ⟨this, by rw [range_at this]; exact hx⟩
end
/-! ### ways -/
structure Wf (w : Way) : Prop where
  dots : ∀ t ∈ w.tabs, ∀ d ∈ t, d ∈ groups w.h
  srt : ∀ t ∈ w.tabs, t.Pairwise (Le ltG)
section
variable {w : Way} {o m : List Nat}
def pt (o : List Nat) (t : Tab) : Tab := sortBy ltG (t.map (pull o))
theorem exch_tabs (W : ∀ t ∈ w.tabs, ∀ d ∈ t, d ∈ groups w.h) : exch w o = ⟨o.length, w.odd, w.tabs.map (pt o)⟩ := by
  unfold exch merged sortedWay
  rw [List.length_map, List.map_map]
  congr 1
  refine List.map_congr_left fun t ht => ?_
  show sortBy ltG (t.map (knownOf w.odd (o.map fun x => [x]))) = pt o t
  unfold pt
  rw [List.map_congr_left (g := pull o) fun d hd => known_pull (mem_groups.mp (W t ht d hd)).1.nodup]
theorem Wf.ex (W : Wf w) : exch w o = ⟨o.length, w.odd, w.tabs.map (pt o)⟩ := exch_tabs W.dots
theorem mem_pt {t : Tab} {d : Grp} : d ∈ pt o t ↔ ∃ e ∈ t, pull o e = d := by
  unfold pt
  rw [sort_mem, List.mem_map]
theorem exch_h (P : Pm w.h o) : (exch w o).h = w.h := by
  unfold exch merged sortedWay
  show (o.map _).length = _
  rw [List.length_map, P.len]
theorem exch_wf (W : Wf w) (P : Pm w.h o) : Wf (exch w o) := by
  have e := W.ex (o := o)
  rw [P.len] at e
  rw [e]
  refine ⟨fun t ht d hd => ?_, fun t ht => ?_⟩
  · obtain ⟨s, hs, rfl⟩ := List.mem_map.mp (show t ∈ w.tabs.map (pt o) from ht)
    obtain ⟨e, he, rfl⟩ := mem_pt.mp hd
    exact pull_grp P
  · obtain ⟨s, hs, rfl⟩ := List.mem_map.mp (show t ∈ w.tabs.map (pt o) from ht)
    exact sort_pw TO.ltG _
theorem pt_pt {h : Nat} {a b : List Nat} (A : Pm h a) (B : Pm h b) (t : Tab) : pt b (pt a t) = pt (comp a b) t := by
  unfold pt
  refine sort_eq TO.ltG (((sort_perm (t.map (pull a))).map (pull b)).trans ?_)
  rw [List.map_map]
  have : t.map (pull b ∘ pull a) = t.map (pull (comp a b)) := List.map_congr_left fun d _ => pull_pull A B d
  rw [this]
theorem exch_exch (W : Wf w) (P : Pm w.h o) (M : Pm w.h m) : exch (exch w o) m = exch w (comp o m) := by
  rw [(exch_wf W P).ex, W.ex, W.ex, comp_len]
  show (⟨m.length, w.odd, (w.tabs.map (pt o)).map (pt m)⟩ : Way) = _
  congr 1
  rw [List.map_map]
  exact List.map_congr_left fun t _ => pt_pt P M t
theorem exch_id (W : Wf w) : exch w (List.range w.h) = w := by
  rw [W.ex, List.length_range]
  have : w.tabs.map (pt (List.range w.h)) = w.tabs := by
    refine (List.map_congr_left (g := id) fun t ht => ?_).trans (List.map_id _)
    unfold pt
    have e : t.map (pull (List.range w.h)) = t := (List.map_congr_left (g := id) fun d hd => pull_range (W.dots t ht d hd)).trans (List.map_id _)
    rw [e]
    exact sort_id TO.ltG (W.srt t ht)
  rw [this]
theorem exch_back (W : Wf w) (P : Pm w.h o) : exch (exch w o) (inv w.h o) = w := by
  rw [exch_exch W P P.inv, comp_inv P, exch_id W]
theorem exch_inj {v : Way} (W : Wf w) (V : Wf v) (e : w.h = v.h) (P : Pm w.h o) (q : exch w o = exch v o) : w = v := by
  rw [← exch_back W P, q, e, exch_back V (e ▸ P)]
theorem exch_len (W : Wf w) : (exch w o).tabs.length = w.tabs.length := by rw [W.ex, List.length_map]
theorem exch_odd (W : Wf w) : (exch w o).odd = w.odd := by rw [W.ex]
/-! ### what is seen -/
theorem cut_pt {h : Nat} (P : Pm h o) {t : Tab} {g : Grp} (ht : ∀ d ∈ t, d ∈ groups h) (hg : g ∈ groups h) : cutOf (pt o t) g = sortBy ltG ((t.map fun d => meets d (led o g)).map (pull o)) := by
  unfold cutOf pt
  refine sort_eq TO.ltG (((sort_perm (t.map (pull o))).map _).trans ?_)
  rw [List.map_map, List.map_map]
  have : t.map ((fun d => meets d g) ∘ pull o) = t.map (pull o ∘ fun d => meets d (led o g)) := List.map_congr_left fun d hd => meets_pull P (ht d hd) hg
  rw [this]
theorem pull_perm {h : Nat} (P : Pm h o) {A B : List Grp} (hA : ∀ d ∈ A, d ∈ groups h) (hB : ∀ d ∈ B, d ∈ groups h) : (A.map (pull o)).Perm (B.map (pull o)) ↔ A.Perm B := by
  constructor
  · intro q
    have := q.map (led o)
    rw [List.map_map, List.map_map] at this
    have e : ∀ X : List Grp, (∀ d ∈ X, d ∈ groups h) → X.map (led o ∘ pull o) = X := fun X hX => (List.map_congr_left (g := id) fun d hd => led_pull P (hX d hd)).trans (List.map_id _)
    rw [e A hA, e B hB] at this
    exact this
  · exact fun q => q.map _
theorem told_exch (W : Wf w) (P : Pm w.h o) {g : Grp} (hg : g ∈ groups w.h) : told (exch w o) g = told w (led o g) := by
  rw [W.ex]
  unfold told
  show inLots ((w.tabs.map (pt o)).map fun t => cutOf t g) = _
  rw [List.map_map]
  refine inLots_alike fun a ha b hb => ?_
  show cutOf (pt o a) g = cutOf (pt o b) g ↔ _
  rw [cut_pt P (W.dots a ha) hg, cut_pt P (W.dots b hb) hg, sort_iff TO.ltG]
  have in_ : ∀ t ∈ w.tabs, ∀ d ∈ t.map (fun d => meets d (led o g)), d ∈ groups w.h := fun t ht d hd => by
    obtain ⟨e, he, rfl⟩ := List.mem_map.mp hd
    exact meets_grp (W.dots t ht e he)
  rw [pull_perm P (in_ a ha) (in_ b hb)]
  unfold cutOf
  rw [sort_iff TO.ltG]
theorem light_pt {h : Nat} (P : Pm h o) {odd : Bool} {t : Tab} {g : Grp} (ht : ∀ d ∈ t, d ∈ groups h) (hg : g ∈ groups h) : lightOf odd (pt o t) g = lightOf odd t (led o g) := by
  unfold lightOf pt
  rw [((sort_perm (t.map (pull o))).filter _).length_eq, List.filter_map, List.length_map]
  congr 1
  exact List.filter_congr fun d hd => by
    show (!isDark odd (pull o d) g) = _
    rw [dark_pull P (ht d hd) hg]
theorem shown_exch (W : Wf w) (P : Pm w.h o) {g : Grp} (hg : g ∈ groups w.h) : shown (exch w o) g = shown w (led o g) := by
  rw [W.ex]
  unfold shown
  show inLots ((w.tabs.map (pt o)).map fun t => lightOf w.odd t g) = _
  rw [List.map_map]
  congr 1
  exact List.map_congr_left fun t ht => light_pt P (W.dots t ht) hg
theorem getD_map {α β : Type} (f : α → β) {xs : List α} {i : Nat} {a : α} {b : β} (h : i < xs.length) : (xs.map f).getD i b = f (xs.getD i a) := by
  rw [List.getD_eq_getElem?_getD, List.getElem?_map, List.getD_eq_getElem?_getD, List.getElem?_eq_getElem h]
  rfl
theorem getD_mem {α : Type} {xs : List α} {i : Nat} {a : α} (h : i < xs.length) : xs.getD i a ∈ xs := by
  rw [List.getD_eq_getElem?_getD, List.getElem?_eq_getElem h]
  exact List.getElem_mem h
theorem light_exch (W : Wf w) (P : Pm w.h o) {g : Grp} (hg : g ∈ groups w.h) {i : Nat} (hi : i < w.tabs.length) : light (exch w o) i g = light w i (led o g) := by
  rw [W.ex]
  unfold light
  show lightOf w.odd ((w.tabs.map (pt o)).getD i []) g = _
  rw [getD_map (pt o) (a := []) hi]
  exact light_pt P (W.dots _ (getD_mem hi)) hg
end
end K42
/-! ## KMathC -/
namespace K42
/-! ### the least -/
section
variable {α : Type} {lt : α → α → Bool}
theorem minL_mem : ∀ (xs : List α) (x : α), minL lt x xs ∈ x :: xs
  | [], x => List.mem_cons_self
  | y :: ys, x => by
    have h := minL_mem ys (if lt y x then y else x)
    show minL lt (if lt y x then y else x) ys ∈ _
    rcases List.mem_cons.mp h with e | e
    · rw [e]
      split
      · exact List.mem_cons_of_mem _ List.mem_cons_self
      · exact List.mem_cons_self
    · exact List.mem_cons_of_mem _ (List.mem_cons_of_mem _ e)
theorem minL_least (T : TO lt) : ∀ (xs : List α) (x : α), ∀ y ∈ x :: xs, Le lt (minL lt x xs) y
  | [], x, y, hy => by
    rw [List.mem_singleton.mp hy]
    show (!lt x x) = true
    rw [T.irr]
    rfl
  | z :: zs, x, y, hy => by
    have h := minL_least T zs (if lt z x then z else x)
    show Le lt (minL lt (if lt z x then z else x) zs) y
    have h1 : Le lt (if lt z x then z else x) x ∧ Le lt (if lt z x then z else x) z := by
      unfold Le
      cases q : lt z x with
      | true =>
        rw [if_pos rfl, T.asym q, T.irr]
        exact ⟨rfl, rfl⟩
      | false =>
        rw [if_neg Bool.false_ne_true, T.irr, q]
        exact ⟨rfl, rfl⟩
    have h0 := h _ List.mem_cons_self
    rcases List.mem_cons.mp hy with rfl | hy
    · exact T.le_tr _ _ _ h0 h1.1
    · rcases List.mem_cons.mp hy with rfl | hy
      · exact T.le_tr _ _ _ h0 h1.2
      · exact h y (List.mem_cons_of_mem _ hy)
end
theorem TO.ltP : TO ltP where
  irr := fun a => by unfold K42.ltP; rw [if_pos rfl, TO.ltG.irr]
  tr := fun a b c h1 h2 => by
    unfold K42.ltP at *
    by_cases e1 : a.length = b.length
    · rw [if_pos e1] at h1
      by_cases e2 : b.length = c.length
      · rw [if_pos e2] at h2
        rw [if_pos (e1.trans e2)]
        exact TO.ltG.tr _ _ _ h1 h2
      · rw [if_neg e2] at h2
        rw [if_neg (fun z => e2 (e1.symm.trans z)), e1]
        exact h2
    · rw [if_neg e1] at h1
      have h1' := of_decide_eq_true h1
      by_cases e2 : b.length = c.length
      · rw [if_neg (fun z => e1 (z.trans e2.symm)), ← e2]
        exact h1
      · rw [if_neg e2] at h2
        have h2' := of_decide_eq_true h2
        rw [if_neg (by omega)]
        exact decide_eq_true (by omega)
  tot := fun a b h => by
    unfold K42.ltP
    by_cases e : a.length = b.length
    · rw [if_pos e, if_pos e.symm]
      exact TO.ltG.tot a b h
    · rw [if_neg e, if_neg (fun z => e z.symm), decide_eq_true_eq, decide_eq_true_eq]
      omega
theorem leP_len {a b : Grp} (h : Le ltP a b) : a.length ≤ b.length := by
  unfold Le ltP at h
  by_cases e : b.length = a.length
  · omega
  · rw [if_neg e, Bool.not_eq_true', decide_eq_false_iff_not] at h
    omega
/-! ### unlike parts -/
def leastLen : List Grp → Option Nat
  | [] => none
  | p :: ps => some (minL ltP p ps).length
theorem unlike_len (w : Way) (i j : Nat) (g : Grp) : (unlikePart w i j g).map List.length = leastLen (unlikeAll w i j g) := by
  unfold unlikePart leastLen
  cases unlikeAll w i j g <;> rfl
theorem leastLen_eq {A B : List Grp} (h1 : ∀ a ∈ A, ∃ b ∈ B, b.length = a.length) (h2 : ∀ b ∈ B, ∃ a ∈ A, a.length = b.length) : leastLen A = leastLen B := by
  cases A with
  | nil =>
    cases B with
    | nil => rfl
    | cons b bs =>
      obtain ⟨a, ha, _⟩ := h2 b List.mem_cons_self
      cases ha
  | cons a as =>
    cases B with
    | nil =>
      obtain ⟨b, hb, _⟩ := h1 a List.mem_cons_self
      cases hb
    | cons b bs =>
      show some _ = some _
      obtain ⟨b', m1, e1⟩ := h1 _ (minL_mem (lt := ltP) as a)
      obtain ⟨a', m2, e2⟩ := h2 _ (minL_mem (lt := ltP) bs b)
      have l1 := leP_len (minL_least TO.ltP bs b b' m1)
      have l2 := leP_len (minL_least TO.ltP as a a' m2)
      congr 1
      omega
section
variable {w : Way} {o m : List Nat} {h : Nat}
theorem parts_in {g p : Grp} (hg : g ∈ groups h) : p ∈ parts g ↔ p ∈ groups h ∧ ∀ x ∈ p, x ∈ g := by
  obtain ⟨ga, gl⟩ := mem_groups.mp hg
  rw [mem_parts, asc_sub ga, mem_groups]
  exact ⟨fun ⟨a, b⟩ => ⟨⟨a, fun x hx => gl x (b x hx)⟩, b⟩, fun ⟨⟨a, _⟩, b⟩ => ⟨a, b⟩⟩
theorem unlike_exch (W : Wf w) (P : Pm w.h o) {g : Grp} (hg : g ∈ groups w.h) {i j : Nat} (hi : i < w.tabs.length) (hj : j < w.tabs.length) : (unlikePart (exch w o) i j g).map List.length = (unlikePart w i j (led o g)).map List.length := by
  rw [unlike_len, unlike_len]
  have hG := led_grp P hg
  refine leastLen_eq (fun a ha => ?_) fun b hb => ?_
  · unfold unlikeAll at ha
    obtain ⟨h1, h2⟩ := List.mem_filter.mp ha
    obtain ⟨h3, h4⟩ := (parts_in hg).mp h1
    rw [light_exch W P h3 hi, light_exch W P h3 hj] at h2
    refine ⟨led o a, ?_, led_len o a⟩
    unfold unlikeAll
    refine List.mem_filter.mpr ⟨(parts_in hG).mpr ⟨led_grp P h3, fun y hy => ?_⟩, h2⟩
    obtain ⟨x, hx, rfl⟩ := mem_led.mp hy
    exact mem_led.mpr ⟨x, h4 x hx, rfl⟩
  · unfold unlikeAll at hb
    obtain ⟨h1, h2⟩ := List.mem_filter.mp hb
    obtain ⟨h3, h4⟩ := (parts_in hG).mp h1
    refine ⟨pull o b, ?_, pull_len P h3⟩
    unfold unlikeAll
    refine List.mem_filter.mpr ⟨(parts_in hg).mpr ⟨pull_grp P, fun x hx => ?_⟩, ?_⟩
    · obtain ⟨q1, q2⟩ := mem_pull.mp hx
      exact (at_led P hg (by rw [← P.len]; exact q1)).mp (h4 _ q2)
    · rw [light_exch W P (pull_grp P) hi, light_exch W P (pull_grp P) hj, led_pull P h3]
      exact h2
/-! ### blind and sighted groups -/
theorem back_pull (P : Pm h o) {lots : List Grp} (hl : ∀ g ∈ lots, g ∈ groups h) : back o lots = sortBy ltG (lots.map (pull o)) := by
  unfold back
  congr 1
  refine List.map_congr_left fun g hg => ?_
  obtain ⟨ga, gl⟩ := mem_groups.mp (hl g hg)
  have nd : (g.map fun x => o.idxOf x).Nodup := by
    unfold List.Nodup
    rw [List.pairwise_map]
    refine List.Pairwise.imp_of_mem (fun {a b} ha hb q z => q ?_) ga.nodup
    rw [← P.at_idx (gl a ha), ← P.at_idx (gl b hb), z]
  refine asc_ext (asc_sort nd) pull_asc fun x => ?_
  rw [sort_mem, List.mem_map, mem_pull, P.len]
  constructor
  · rintro ⟨y, hy, rfl⟩
    exact ⟨P.idx_lt (gl y hy), by rw [P.at_idx (gl y hy)]; exact hy⟩
  · rintro ⟨h1, h2⟩
    exact ⟨_, h2, P.idx h1⟩
theorem pull_inj (P : Pm h o) {a b : Grp} (ha : a ∈ groups h) (hb : b ∈ groups h) (e : pull o a = pull o b) : a = b := by
  rw [← led_pull P ha, e, led_pull P hb]
theorem back_eq (P : Pm h o) {X Y : List Grp} (hX : X.Pairwise fun a b => ltG a b = true) (hY : Y.Nodup) (hYg : ∀ g ∈ Y, g ∈ groups h) (hXg : ∀ g ∈ X, g ∈ groups h) (he : ∀ g ∈ groups h, g ∈ X ↔ led o g ∈ Y) : X = back o Y := by
  rw [back_pull P hYg]
  have nd : (Y.map (pull o)).Nodup := by
    unfold List.Nodup
    rw [List.pairwise_map]
    exact List.Pairwise.imp_of_mem (fun {a b} ha hb q z => q (pull_inj P (hYg a ha) (hYg b hb) z)) hY
  refine strict_ext TO.ltG hX (pw_strict TO.ltG ((sort_perm _).nodup_iff.mpr nd) (sort_pw TO.ltG _)) fun g => ?_
  rw [sort_mem, List.mem_map]
  constructor
  · intro hg
    exact ⟨led o g, (he g (hXg g hg)).mp hg, pull_led P (hXg g hg)⟩
  · rintro ⟨b, hb, rfl⟩
    refine (he _ (pull_grp P)).mpr ?_
    rw [led_pull P (hYg b hb)]
    exact hb
theorem isPart_iff {a b : Grp} : isPart a b = true ↔ ∀ x ∈ a, x ∈ b := by
  unfold isPart
  rw [List.all_eq_true]
  exact ⟨fun q x hx => List.contains_iff_mem.mp (q x hx), fun q x hx => List.contains_iff_mem.mpr (q x hx)⟩
theorem isPart_led (P : Pm h o) {a b : Grp} (ha : a ∈ groups h) (hb : b ∈ groups h) : isPart (led o a) (led o b) = isPart a b := by
  rw [Bool.eq_iff_iff, isPart_iff, isPart_iff]
  constructor
  · intro q x hx
    have hl := (mem_groups.mp ha).2 x hx
    exact (at_led P hb hl).mp (q _ (mem_led.mpr ⟨x, hx, rfl⟩))
  · intro q y hy
    obtain ⟨x, hx, rfl⟩ := mem_led.mp hy
    exact mem_led.mpr ⟨x, q x hx, rfl⟩
theorem led_eq (P : Pm h o) {a b : Grp} (ha : a ∈ groups h) (hb : b ∈ groups h) : led o a = led o b ↔ a = b :=
  ⟨fun e => by rw [← pull_led P ha, e, pull_led P hb], fun e => by rw [e]⟩
/-- what stands at the rim of a family of groups -/
theorem rim_exch (P : Pm h o) {Q Q' : Grp → Bool} {r : Grp → Grp → Bool} (hQ : ∀ g ∈ groups h, Q' g = Q (led o g)) (hr : ∀ a ∈ groups h, ∀ b ∈ groups h, r (led o a) (led o b) = r a b) :
    (((groups h).filter Q').filter fun own => !((groups h).filter Q').any fun other => r own other && own != other) = back o (((groups h).filter Q).filter fun own => !((groups h).filter Q).any fun other => r own other && own != other) := by
  refine back_eq P (List.Pairwise.filter _ (List.Pairwise.filter _ (groups_pw h))) (((groups_nodup h).filter _).filter _) (fun g hg => (List.mem_filter.mp (List.mem_filter.mp hg).1).1) (fun g hg => (List.mem_filter.mp (List.mem_filter.mp hg).1).1) fun g hg => ?_
  rw [List.mem_filter, List.mem_filter, List.mem_filter, List.mem_filter, hQ g hg]
  have hG := led_grp P hg
  have key : (((groups h).filter Q').any fun other => r g other && g != other) = ((groups h).filter Q).any fun other => r (led o g) other && led o g != other := by
    rw [Bool.eq_iff_iff, List.any_eq_true, List.any_eq_true]
    constructor
    · rintro ⟨x, hx, q⟩
      obtain ⟨x1, x2⟩ := List.mem_filter.mp hx
      refine ⟨led o x, List.mem_filter.mpr ⟨led_grp P x1, by rw [← hQ x x1]; exact x2⟩, ?_⟩
      rw [hr g hg x x1]
      rw [Bool.and_eq_true] at q ⊢
      refine ⟨q.1, ?_⟩
      have := q.2
      rw [bne_iff_ne] at this ⊢
      exact fun z => this ((led_eq P hg x1).mp z)
    · rintro ⟨y, hy, q⟩
      obtain ⟨y1, y2⟩ := List.mem_filter.mp hy
      have e := led_pull P y1
      refine ⟨pull o y, List.mem_filter.mpr ⟨pull_grp P, by rw [hQ _ (pull_grp P), e]; exact y2⟩, ?_⟩
      have e2 := hr g hg _ (pull_grp P (d := y))
      rw [e] at e2
      rw [Bool.and_eq_true] at q ⊢
      refine ⟨by rw [← e2]; exact q.1, ?_⟩
      have := q.2
      rw [bne_iff_ne] at this ⊢
      exact fun z => this (by rw [z, e])
  rw [key]
  exact ⟨fun ⟨⟨a, b⟩, c⟩ => ⟨⟨hG, b⟩, c⟩, fun ⟨⟨a, b⟩, c⟩ => ⟨⟨hg, b⟩, c⟩⟩
theorem blind_exch (W : Wf w) (P : Pm w.h o) : blind (exch w o) = back o (blind w) := by
  unfold blind greatest
  rw [exch_h P]
  refine rim_exch P (r := isPart) (fun g hg => ?_) fun a ha b hb => isPart_led P ha hb
  unfold isBlind
  rw [told_exch W P hg]
theorem sighted_exch (W : Wf w) (P : Pm w.h o) : sighted (exch w o) = back o (sighted w) := by
  unfold sighted least
  rw [exch_h P]
  refine rim_exch P (r := fun own other => isPart other own) (fun g hg => ?_) fun a ha b hb => isPart_led P hb ha
  rw [told_exch W P hg, exch_len W]
theorem blind_grp {g : Grp} (hg : g ∈ blind w) : g ∈ groups w.h := by
  unfold blind greatest at hg
  exact (List.mem_filter.mp (List.mem_filter.mp hg).1).1
theorem sighted_grp {g : Grp} (hg : g ∈ sighted w) : g ∈ groups w.h := by
  unfold sighted least at hg
  exact (List.mem_filter.mp (List.mem_filter.mp hg).1).1
/-! ### two holders that may be exchanged -/
theorem swap_at {h i j x : Nat} (hx : x < h) : (swapped h i j).getD x 0 = if x = j then i else if x = i then j else x := by
  unfold swapped
  rw [List.getD_eq_getElem?_getD, List.getElem?_set]
  by_cases e : j = x
  · subst e
    rw [if_pos rfl, if_pos (by rw [List.length_set, List.length_range]; exact hx), if_pos rfl]
    rfl
  · rw [if_neg e, if_neg (fun z => e z.symm), List.getElem?_set]
    by_cases e2 : i = x
    · subst e2
      rw [if_pos rfl, if_pos (by rw [List.length_range]; exact hx), if_pos rfl]
      rfl
    · rw [if_neg e2, if_neg (fun z => e2 z.symm), List.getElem?_range hx]
      rfl
theorem swap_len {h i j : Nat} : (swapped h i j).length = h := by
  unfold swapped
  rw [List.length_set, List.length_set, List.length_range]
theorem swap_pm {i j : Nat} (hi : i < h) (hj : j < h) : Pm h (swapped h i j) := by
  have inv : ∀ x, x < h → (if (if x = j then i else if x = i then j else x) = j then i else if (if x = j then i else if x = i then j else x) = i then j else (if x = j then i else if x = i then j else x)) = x := fun x hx => by
    by_cases e1 : x = j
    · rw [if_pos e1]
      by_cases e2 : i = j
      · rw [if_pos e2]; omega
      · rw [if_neg e2, if_pos rfl]; omega
    · rw [if_neg e1]
      by_cases e2 : x = i
      · rw [if_pos e2, if_pos rfl]; omega
      · rw [if_neg e2, if_neg e1, if_neg e2]
  have lt : ∀ x, x < h → (if x = j then i else if x = i then j else x) < h := fun x hx => by
    split
    · exact hi
    · split
      · exact hj
      · exact hx
  refine pm_of (f := fun x => if x = j then i else if x = i then j else x) swap_len (fun x hx => ?_) (fun x hx => ?_) fun y hy => ⟨lt y hy, ?_⟩
  · rw [swap_at hx]; exact lt x hx
  · rw [swap_at hx]; exact inv x hx
  · rw [swap_at (lt y hy)]; exact inv y hy
theorem swap_self {i : Nat} : swapped h i i = List.range h := by
  refine ext_getD (by rw [swap_len, List.length_range]) fun x hx => ?_
  rw [swap_len] at hx
  rw [swap_at hx, range_at hx]
  split
  · omega
  · rfl
theorem swap_comm {i j : Nat} : swapped h i j = swapped h j i := by
  refine ext_getD (by rw [swap_len, swap_len]) fun x hx => ?_
  rw [swap_len] at hx
  rw [swap_at hx, swap_at hx]
  by_cases e1 : x = j <;> by_cases e2 : x = i
  · rw [if_pos e1, if_pos e2]; omega
  · rw [if_pos e1, if_neg e2, if_pos e1]
  · rw [if_neg e1, if_pos e2, if_pos e2]
  · rw [if_neg e1, if_neg e2, if_neg e2, if_neg e1]
theorem comp_swap (P : Pm h o) {i j : Nat} (hi : i < h) (hj : j < h) : comp o (swapped h i j) = comp (swapped h (o.getD i 0) (o.getD j 0)) o := by
  refine ext_getD (by rw [comp_len, comp_len, swap_len, P.len]) fun x hx => ?_
  rw [comp_len, swap_len] at hx
  rw [comp_at (by rw [swap_len]; exact hx), comp_at (by rw [P.len]; exact hx), swap_at hx, swap_at (P.lt hx)]
  by_cases e1 : x = j
  · rw [if_pos e1, if_pos (by rw [e1])]
  · rw [if_neg e1, if_neg (fun z => e1 (P.inj hx hj z))]
    by_cases e2 : x = i
    · rw [if_pos e2, if_pos (by rw [e2])]
    · rw [if_neg e2, if_neg (fun z => e2 (P.inj hx hi z))]
def Eqv (w : Way) (i j : Nat) : Prop := exch w (swapped w.h i j) = w
theorem eqv_refl (W : Wf w) (i : Nat) : Eqv w i i := by
  unfold Eqv
  rw [swap_self, exch_id W]
theorem eqv_symm {i j : Nat} (e : Eqv w i j) : Eqv w j i := by
  unfold Eqv at *
  rw [swap_comm]
  exact e
theorem swap_three {i j k : Nat} (hi : i < h) (hj : j < h) (hk : k < h) (nij : i ≠ j) (njk : j ≠ k) (nik : i ≠ k) : swapped h i k = comp (swapped h i j) (comp (swapped h j k) (swapped h i j)) := by
  have lt : ∀ a b x, a < h → b < h → x < h → (if x = b then a else if x = a then b else x) < h := fun a b x ha hb hx => by
    split
    · exact ha
    · split
      · exact hb
      · exact hx
  refine ext_getD (by rw [swap_len, comp_len, comp_len, swap_len]) fun x hx => ?_
  rw [swap_len] at hx
  rw [comp_at (by rw [comp_len, swap_len]; exact hx), comp_at (by rw [swap_len]; exact hx), swap_at (i := i) (j := j) hx, swap_at (lt i j x hi hj hx), swap_at (lt j k _ hj hk (lt i j x hi hj hx)), swap_at hx]
  by_cases e1 : x = i
  · subst e1
    rw [if_neg nik, if_pos rfl, if_neg nij, if_pos rfl, if_neg njk, if_pos rfl, if_neg (Ne.symm njk), if_neg (Ne.symm nik)]
  · by_cases e2 : x = j
    · subst e2
      rw [if_neg njk, if_neg e1, if_pos rfl, if_neg nik, if_neg nij, if_neg nij, if_pos rfl]
    · by_cases e3 : x = k
      · subst e3
        rw [if_pos rfl, if_neg e2, if_neg e1, if_pos rfl, if_pos rfl]
      · rw [if_neg e3, if_neg e1, if_neg e2, if_neg e1, if_neg e3, if_neg e2, if_neg e2, if_neg e1]
theorem eqv_trans (W : Wf w) {i j k : Nat} (hi : i < w.h) (hj : j < w.h) (hk : k < w.h) (e1 : Eqv w i j) (e2 : Eqv w j k) : Eqv w i k := by
  by_cases nij : i = j
  · rw [nij]; exact e2
  by_cases njk : j = k
  · rw [← njk]; exact e1
  by_cases nik : i = k
  · rw [nik]; exact eqv_refl W k
  unfold Eqv at *
  have p1 := swap_pm hi hj
  have p2 := swap_pm hj hk
  rw [swap_three hi hj hk nij njk nik, ← exch_exch W p1 (p2.comp p1), e1, ← exch_exch W p2 p1, e2, e1]
theorem mem_lotE {i j : Nat} : j ∈ equalLot w i ↔ j < w.h ∧ Eqv w i j := by
  unfold equalLot Eqv
  rw [List.mem_filter, List.mem_range, decide_eq_true_eq]
theorem lotE_asc (i : Nat) : Asc (equalLot w i) := (asc_range _).filter _
theorem lotE_grp (i : Nat) : equalLot w i ∈ groups w.h := mem_groups.mpr ⟨lotE_asc i, fun x hx => (mem_lotE.mp hx).1⟩
theorem lotE_ne (W : Wf w) {i : Nat} (hi : i < w.h) : equalLot w i ≠ [] := fun z => by
  have : i ∈ equalLot w i := mem_lotE.mpr ⟨hi, eqv_refl W i⟩
  rw [z] at this
  cases this
theorem lotE_eq (W : Wf w) {i j : Nat} (hi : i < w.h) (hj : j < w.h) (e : Eqv w i j) : equalLot w i = equalLot w j := by
  refine asc_ext (lotE_asc i) (lotE_asc j) fun x => ?_
  rw [mem_lotE, mem_lotE]
  exact ⟨fun ⟨a, b⟩ => ⟨a, eqv_trans W hj hi a (eqv_symm e) b⟩, fun ⟨a, b⟩ => ⟨a, eqv_trans W hi hj a e b⟩⟩
theorem mem_equals (W : Wf w) {L : List Nat} : L ∈ equals w ↔ ∃ i, i < w.h ∧ L = equalLot w i := by
  unfold equals
  rw [List.mem_map]
  constructor
  · rintro ⟨i, hi, rfl⟩
    exact ⟨i, List.mem_range.mp (List.mem_filter.mp hi).1, rfl⟩
  · rintro ⟨i, hi, rfl⟩
    cases q : equalLot w i with
    | nil => exact absurd q (lotE_ne W hi)
    | cons a r =>
      have ha : a ∈ equalLot w i := by rw [q]; exact List.mem_cons_self
      obtain ⟨a1, a2⟩ := mem_lotE.mp ha
      have e := lotE_eq W hi a1 a2
      refine ⟨a, List.mem_filter.mpr ⟨List.mem_range.mpr a1, ?_⟩, by rw [← e, q]⟩
      rw [← e, q]
      simp
theorem equals_pw (W : Wf w) : (equals w).Pairwise fun a b => ltG a b = true := by
  unfold equals
  rw [List.pairwise_map]
  refine List.Pairwise.imp_of_mem (fun {a b} ha hb q => ?_) (List.Pairwise.filter _ (asc_range w.h))
  have h1 := (List.mem_filter.mp ha).2
  have h2 := (List.mem_filter.mp hb).2
  rw [beq_iff_eq] at h1 h2
  cases e1 : equalLot w a with
  | nil => rw [e1] at h1; cases h1
  | cons x xs =>
    cases e2 : equalLot w b with
    | nil => rw [e2] at h2; cases h2
    | cons y ys =>
      rw [e1] at h1
      rw [e2] at h2
      have h1 : some x = some a := h1
      have h2 : some y = some b := h2
      injection h1 with h1
      injection h2 with h2
      show lexL ltN (x :: xs) (y :: ys) = true
      have q' : ltN x y = true := by rw [h1, h2]; exact q
      have ne : x ≠ y := fun z => by
        rw [z, TO.ltN.irr] at q'
        cases q'
      rw [lexL, if_neg ne]
      exact q'
theorem eqv_exch (W : Wf w) (P : Pm w.h o) {i j : Nat} (hi : i < w.h) (hj : j < w.h) : Eqv (exch w o) i j ↔ Eqv w (o.getD i 0) (o.getD j 0) := by
  unfold Eqv
  rw [exch_h P, exch_exch W P (swap_pm hi hj), comp_swap P hi hj, ← exch_exch W (swap_pm (P.lt hi) (P.lt hj)) P]
  constructor
  · intro q
    exact exch_inj (o := o) (exch_wf W (swap_pm (P.lt hi) (P.lt hj))) W (exch_h (swap_pm (P.lt hi) (P.lt hj))) (by rw [exch_h (swap_pm (P.lt hi) (P.lt hj))]; exact P) q
  · intro q
    rw [q]
theorem lotE_exch (W : Wf w) (P : Pm w.h o) {i : Nat} (hi : i < w.h) : equalLot (exch w o) i = pull o (equalLot w (o.getD i 0)) := by
  refine asc_ext (lotE_asc i) pull_asc fun x => ?_
  rw [mem_lotE, mem_pull, mem_lotE, exch_h P, P.len]
  constructor
  · rintro ⟨a, b⟩
    exact ⟨a, P.lt a, (eqv_exch W P hi a).mp b⟩
  · rintro ⟨a, _, b⟩
    exact ⟨a, (eqv_exch W P hi a).mpr b⟩
theorem equals_grp (W : Wf w) {L : List Nat} (hL : L ∈ equals w) : L ∈ groups w.h := by
  obtain ⟨i, hi, rfl⟩ := (mem_equals W).mp hL
  exact lotE_grp i
theorem equals_exch (W : Wf w) (P : Pm w.h o) : equals (exch w o) = back o (equals w) := by
  have W2 := exch_wf W P
  have hg : ∀ g ∈ equals (exch w o), g ∈ groups w.h := fun g hg => by
    have := equals_grp W2 hg
    rw [exch_h P] at this
    exact this
  refine back_eq P (equals_pw W2) (pw_nodup TO.ltG (equals_pw W)) (fun g hg => equals_grp W hg) hg fun g hg => ?_
  rw [mem_equals W2, mem_equals W]
  constructor
  · rintro ⟨i, hi, rfl⟩
    rw [exch_h P] at hi
    exact ⟨o.getD i 0, P.lt hi, by rw [lotE_exch W P hi, led_pull P (lotE_grp _)]⟩
  · rintro ⟨y, hy, e⟩
    refine ⟨o.idxOf y, by rw [exch_h P]; exact P.idx_lt hy, ?_⟩
    rw [lotE_exch W P (P.idx_lt hy), P.at_idx hy, ← e, pull_led P hg]
/-- led by an exchange of two -/
theorem led_swap {a b : Nat} (ha : a < h) (hb : b < h) {g : Grp} (hg : g ∈ groups h) (na : a ∉ g) (nb : b ∉ g) : led (swapped h a b) (sortBy ltN (g ++ [a])) = sortBy ltN (g ++ [b]) := by
  obtain ⟨ga, gl⟩ := mem_groups.mp hg
  have nd : ∀ c, c ∉ g → (g ++ [c]).Nodup := fun c hc => by
    rw [List.nodup_append]
    exact ⟨ga.nodup, by simp, fun x hx y hy e => by rw [List.mem_singleton.mp hy] at e; exact hc (e ▸ hx)⟩
  have hA : sortBy ltN (g ++ [a]) ∈ groups h := mem_groups.mpr ⟨asc_sort (nd a na), fun x hx => by
    rw [sort_mem] at hx
    rcases List.mem_append.mp hx with hx | hx
    · exact gl x hx
    · rw [List.mem_singleton.mp hx]; exact ha⟩
  refine asc_ext (mem_groups.mp (led_grp (swap_pm ha hb) hA)).1 (asc_sort (nd b nb)) fun y => ?_
  rw [mem_led, sort_mem]
  constructor
  · rintro ⟨x, hx, rfl⟩
    rw [sort_mem] at hx
    rcases List.mem_append.mp hx with hx | hx
    · have n1 : x ≠ b := fun z => nb (z ▸ hx)
      have n2 : x ≠ a := fun z => na (z ▸ hx)
      rw [swap_at (gl x hx), if_neg n1, if_neg n2]
      exact List.mem_append_left _ hx
    · rw [List.mem_singleton.mp hx, swap_at ha]
      split
      · rename_i e
        rw [e]
        exact List.mem_append_right _ List.mem_cons_self
      · rw [if_pos rfl]
        exact List.mem_append_right _ List.mem_cons_self
  · intro hy
    rcases List.mem_append.mp hy with hy | hy
    · have n1 : y ≠ b := fun z => nb (z ▸ hy)
      have n2 : y ≠ a := fun z => na (z ▸ hy)
      exact ⟨y, by rw [sort_mem]; exact List.mem_append_left _ hy, by rw [swap_at (gl y hy), if_neg n1, if_neg n2]⟩
    · rw [List.mem_singleton.mp hy]
      refine ⟨a, by rw [sort_mem]; exact List.mem_append_right _ List.mem_cons_self, ?_⟩
      rw [swap_at ha]
      split
      · assumption
      · rw [if_pos rfl]
theorem snoc_grp {a : Nat} (ha : a < h) {g : Grp} (hg : g ∈ groups h) (na : a ∉ g) : sortBy ltN (g ++ [a]) ∈ groups h := by
  obtain ⟨ga, gl⟩ := mem_groups.mp hg
  have nd : (g ++ [a]).Nodup := by
    rw [List.nodup_append]
    exact ⟨ga.nodup, by simp, fun x hx y hy e => by rw [List.mem_singleton.mp hy] at e; exact na (e ▸ hx)⟩
  refine mem_groups.mpr ⟨asc_sort nd, fun x hx => ?_⟩
  rw [sort_mem] at hx
  rcases List.mem_append.mp hx with hx | hx
  · exact gl x hx
  · rw [List.mem_singleton.mp hx]; exact ha
theorem eqr_same (W : Wf w) {lot : List Nat} (hl : lot ∈ equals w) {a b : Nat} (ha : a ∈ lot) (hb : b ∈ lot) {g : Grp} (hg : g ∈ groups w.h) (na : a ∉ g) (nb : b ∉ g) :
    told w (sortBy ltN (g ++ [a])) = told w (sortBy ltN (g ++ [b])) ∧ ∀ i, i < w.tabs.length → light w i (sortBy ltN (g ++ [a])) = light w i (sortBy ltN (g ++ [b])) := by
  obtain ⟨i, hi, rfl⟩ := (mem_equals W).mp hl
  obtain ⟨a1, a2⟩ := mem_lotE.mp ha
  obtain ⟨b1, b2⟩ := mem_lotE.mp hb
  have e := eqv_trans W a1 hi b1 (eqv_symm a2) b2
  have P := swap_pm a1 b1
  have hA := snoc_grp a1 hg na
  unfold Eqv at e
  have t := told_exch W P hA
  rw [e, led_swap a1 b1 hg na nb] at t
  refine ⟨t, fun i hi => ?_⟩
  have l := light_exch W P hA hi
  rw [e, led_swap a1 b1 hg na nb] at l
  exact l
end
end K42
/-! ## KMathD -/
namespace K42
/-! ### the orders -/
theorem len_sub : ∀ {l l' : List Nat}, l.Nodup → (∀ x ∈ l, x ∈ l') → l.length ≤ l'.length
  | [], _, _, _ => Nat.zero_le _
  | x :: xs, l', h, hs => by
    rw [List.nodup_cons] at h
    have hx := hs x List.mem_cons_self
    have := len_sub (l := xs) (l' := l'.erase x) h.2 fun y hy => (List.mem_erase_of_ne (fun e => h.1 (by rw [← e]; exact hy))).mpr (hs y (List.mem_cons_of_mem _ hy))
    rw [List.length_erase_of_mem hx] at this
    have := List.length_pos_of_mem hx
    rw [List.length_cons]
    omega
section
variable {w : Way} {o m : List Nat} {h : Nat}
theorem mem_longer {row r : List Nat} : r ∈ longer h row ↔ ∃ x, x < h ∧ x ∉ row ∧ r = row ++ [x] := by
  unfold longer
  rw [List.mem_map]
  constructor
  · rintro ⟨x, hx, rfl⟩
    obtain ⟨h1, h2⟩ := List.mem_filter.mp hx
    refine ⟨x, List.mem_range.mp h1, ?_, rfl⟩
    simpa using h2
  · rintro ⟨x, h1, h2, rfl⟩
    exact ⟨x, List.mem_filter.mpr ⟨List.mem_range.mpr h1, by simpa using h2⟩, rfl⟩
theorem mem_ordersU : ∀ (k : Nat) (r : List Nat), r ∈ ordersU h k ↔ r.length = k ∧ r.Nodup ∧ ∀ x ∈ r, x < h
  | 0, r => by
    constructor
    · intro q
      rw [List.mem_singleton.mp q]
      exact ⟨rfl, List.nodup_nil, fun _ z => nomatch z⟩
    · rintro ⟨h1, _, _⟩
      rw [List.eq_nil_of_length_eq_zero h1]
      exact List.mem_singleton.mpr rfl
  | k + 1, r => by
    show r ∈ (ordersU h k).flatMap (longer h) ↔ _
    rw [List.mem_flatMap]
    constructor
    · rintro ⟨row, h1, h2⟩
      obtain ⟨a, b, c⟩ := (mem_ordersU k row).mp h1
      obtain ⟨x, hx, hn, rfl⟩ := mem_longer.mp h2
      refine ⟨by rw [List.length_append, a]; rfl, ?_, fun y hy => ?_⟩
      · rw [List.nodup_append]
        exact ⟨b, by simp, fun u hu v hv e => by rw [List.mem_singleton.mp hv] at e; exact hn (e ▸ hu)⟩
      · rcases List.mem_append.mp hy with hy | hy
        · exact c y hy
        · rw [List.mem_singleton.mp hy]; exact hx
    · rintro ⟨a, b, c⟩
      have hne : r ≠ [] := fun z => by rw [z] at a; cases a
      refine ⟨r.dropLast, (mem_ordersU k _).mpr ⟨by rw [List.length_dropLast, a]; rfl, List.Pairwise.sublist (List.dropLast_sublist r) b, fun x hx => c x ((List.dropLast_sublist r).subset hx)⟩, ?_⟩
      refine mem_longer.mpr ⟨r.getLast hne, c _ (List.getLast_mem hne), fun z => ?_, (List.dropLast_concat_getLast hne).symm⟩
      rw [← List.dropLast_concat_getLast hne, List.nodup_append] at b
      exact b.2.2 _ z _ List.mem_cons_self rfl
theorem mem_orders : o ∈ orders h ↔ Pm h o := by
  unfold orders
  rw [mem_ordersU]
  constructor
  · rintro ⟨a, b, c⟩
    refine (List.perm_ext_iff_of_nodup b List.nodup_range).mpr fun x => ?_
    rw [List.mem_range]
    refine ⟨c x, fun hx => ?_⟩
    by_cases q : x ∈ o
    · exact q
    · exfalso
      have := len_sub (l := x :: o) (l' := List.range h) (List.nodup_cons.mpr ⟨q, b⟩) fun y hy => by
        rw [List.mem_range]
        rcases List.mem_cons.mp hy with rfl | hy
        · exact hx
        · exact c y hy
      rw [List.length_cons, List.length_range] at this
      omega
  · exact fun P => ⟨P.len, P.nodup, fun x hx => P.mem.mp hx⟩
theorem lex_last : ∀ (a : List Nat) (x y : Nat), ltN x y = true → ltG (a ++ [x]) (a ++ [y]) = true
  | [], x, y, q => by
    show lexL ltN [x] [y] = true
    have ne : x ≠ y := fun z => by rw [z, TO.ltN.irr] at q; cases q
    rw [lexL, if_neg ne]
    exact q
  | b :: bs, x, y, q => by
    show lexL ltN (b :: (bs ++ [x])) (b :: (bs ++ [y])) = true
    rw [lexL, if_pos rfl]
    exact lex_last bs x y q
theorem lex_front : ∀ (a b : List Nat) (c d : List Nat), a.length = b.length → ltG a b = true → ltG (a ++ c) (b ++ d) = true
  | [], [], _, _, _, q => by cases q
  | [], _ :: _, _, _, e, _ => by cases e
  | _ :: _, [], _, _, e, _ => by cases e
  | x :: xs, y :: ys, c, d, e, q => by
    have q : lexL ltN (x :: xs) (y :: ys) = true := q
    show lexL ltN (x :: (xs ++ c)) (y :: (ys ++ d)) = true
    rw [lexL] at q ⊢
    by_cases z : x = y
    · rw [if_pos z] at q ⊢
      exact lex_front xs ys c d (Nat.succ.inj e) q
    · rw [if_neg z] at q ⊢
      exact q
theorem orders_pw : ∀ k, (ordersU h k).Pairwise fun a b => ltG a b = true
  | 0 => List.pairwise_singleton _ _
  | k + 1 => by
    show ((ordersU h k).flatMap (longer h)).Pairwise _
    rw [List.pairwise_flatMap]
    refine ⟨fun row _ => ?_, ?_⟩
    · unfold longer
      rw [List.pairwise_map]
      exact (List.Pairwise.filter _ (asc_range h)).imp fun {a b} q => lex_last row a b q
    · refine List.Pairwise.imp_of_mem (fun {a b} ha hb q x hx y hy => ?_) (orders_pw k)
      obtain ⟨u, _, _, rfl⟩ := mem_longer.mp hx
      obtain ⟨v, _, _, rfl⟩ := mem_longer.mp hy
      exact lex_front a b _ _ (((mem_ordersU k a).mp ha).1.trans ((mem_ordersU k b).mp hb).1.symm) q
/-! ### likeness -/
theorem like_first {a b : Way} (P : Pm a.h o) (e : exch a o = b) : ∃ f, likeness a b = some f ∧ Pm a.h f ∧ exch a f = b ∧ ltG o f = false := by
  have ho := mem_orders.mpr P
  cases q : likeness a b with
  | none =>
    unfold likeness at q
    rw [List.find?_eq_none] at q
    have := q o ho
    rw [e, decide_eq_true rfl] at this
    exact absurd rfl this
  | some f =>
    have q0 := q
    unfold likeness at q
    obtain ⟨h1, i, hi, h2, h3⟩ := List.find?_eq_some_iff_getElem.mp q
    refine ⟨f, rfl, mem_orders.mp (h2 ▸ List.getElem_mem hi), of_decide_eq_true h1, ?_⟩
    obtain ⟨j, hj, rfl⟩ := List.mem_iff_getElem.mp ho
    rcases Nat.lt_trichotomy j i with l | l | l
    · have := h3 j l
      rw [e, decide_eq_true rfl] at this
      cases this
    · subst l
      rw [← h2]
      exact TO.ltG.irr _
    · have pw := orders_pw (h := a.h) a.h
      have := List.pairwise_iff_getElem.mp pw i j hi hj l
      rw [← h2]
      exact TO.ltG.asym this
theorem like_some {a b : Way} : (likeness a b).isSome = true ↔ ∃ o, Pm a.h o ∧ exch a o = b := by
  constructor
  · intro q
    obtain ⟨f, hf⟩ := Option.isSome_iff_exists.mp q
    unfold likeness at hf
    obtain ⟨h1, i, hi, h2, _⟩ := List.find?_eq_some_iff_getElem.mp hf
    exact ⟨f, mem_orders.mp (h2 ▸ List.getElem_mem hi), of_decide_eq_true h1⟩
  · rintro ⟨o, P, e⟩
    obtain ⟨f, hf, _⟩ := like_first P e
    rw [hf]
    rfl
/-! ### the first form -/
def orbit (w : Way) : List (List Tab) := (orders w.h).map fun o => (exch w o).tabs
theorem orbit_ne : orbit w ≠ [] := fun z => by
  have := List.mem_map_of_mem (f := fun o => (exch w o).tabs) (mem_orders.mpr (Pm.range w.h))
  rw [show (orders w.h).map (fun o => (exch w o).tabs) = orbit w from rfl, z] at this
  cases this
theorem first_mem : firstTabs w ∈ orbit w ∧ ∀ ts ∈ orbit w, Le ltTs (firstTabs w) ts := by
  have e : firstTabs w = match orbit w with
    | [] => []
    | x :: xs => minL ltTs x xs := rfl
  rw [e]
  cases q : orbit w with
  | nil => exact absurd q orbit_ne
  | cons x xs => exact ⟨minL_mem xs x, minL_least TO.ltTs xs x⟩
theorem first_of (W : Wf w) : ∃ o, Pm w.h o ∧ firstForm w = exch w o := by
  obtain ⟨h1, _⟩ := first_mem (w := w)
  obtain ⟨o, ho, e⟩ := List.mem_map.mp h1
  have P := mem_orders.mp ho
  refine ⟨o, P, ?_⟩
  unfold firstForm
  rw [← e]
  have := W.ex (o := o)
  rw [P.len] at this
  rw [this]
theorem first_exch (W : Wf w) (P : Pm w.h o) : firstForm (exch w o) = firstForm w := by
  have hh := exch_h P
  have e : firstTabs (exch w o) = firstTabs w := by
    obtain ⟨a1, a2⟩ := first_mem (w := exch w o)
    obtain ⟨b1, b2⟩ := first_mem (w := w)
    refine TO.le_anti TO.ltTs (a2 _ ?_) (b2 _ ?_)
    · obtain ⟨p, hp, q⟩ := List.mem_map.mp b1
      have Q := mem_orders.mp hp
      refine List.mem_map.mpr ⟨comp (inv w.h o) p, mem_orders.mpr (by rw [hh]; exact P.inv.comp Q), ?_⟩
      show (exch (exch w o) (comp (inv w.h o) p)).tabs = _
      rw [exch_exch W P (P.inv.comp Q), ← comp_assoc P.inv Q, comp_inv P, comp_range Q]
      exact q
    · obtain ⟨p, hp, q⟩ := List.mem_map.mp a1
      have Q := mem_orders.mp hp
      rw [hh] at Q
      refine List.mem_map.mpr ⟨comp o p, mem_orders.mpr (P.comp Q), ?_⟩
      show (exch w (comp o p)).tabs = _
      rw [← exch_exch W P Q]
      exact q
  unfold firstForm
  rw [e, hh, exch_odd W]
theorem first_like (W : Wf w) : (likeness w (firstForm w)).isSome = true := by
  obtain ⟨o, P, e⟩ := first_of W
  exact like_some.mpr ⟨o, P, e.symm⟩
theorem like_first_iff {s : Way} (W : Wf w) (S : Wf s) (hh : s.h = w.h) : (likeness w s).isSome = decide (firstForm w = firstForm s) := by
  rw [Bool.eq_iff_iff, decide_eq_true_eq, like_some]
  constructor
  · rintro ⟨o, P, rfl⟩
    exact (first_exch W P).symm
  · intro e
    obtain ⟨a, A, ea⟩ := first_of W
    obtain ⟨b, B, eb⟩ := first_of S
    have B' : Pm w.h b := hh ▸ B
    refine ⟨comp a (inv w.h b), A.comp B'.inv, ?_⟩
    rw [← exch_exch W A B'.inv, ← ea, e, eb, ← hh]
    exact exch_back S B
/-! ### what is made of ways -/
theorem tabs_ext {a b : Way} (h1 : a.h = b.h) (h2 : a.odd = b.odd) (h3 : a.tabs = b.tabs) : a = b := by
  cases a; cases b
  cases h1; cases h2; cases h3
  rfl
theorem zip_self {α β : Type} (f : α → α → β) : ∀ xs : List α, List.zipWith f xs xs = xs.map fun x => f x x
  | [] => rfl
  | x :: xs => by rw [List.zipWith_cons_cons, zip_self f xs, List.map_cons]
theorem bes_tabs (w : Way) : beside w w = ⟨w.h, w.odd, w.tabs.map fun t => sortBy ltG (t ++ t)⟩ := by
  unfold beside sortedWay
  rw [zip_self, List.map_map]
  rfl
theorem bes_wf (W : Wf w) : Wf (beside w w) := by
  rw [bes_tabs]
  refine ⟨fun t ht d hd => ?_, fun t ht => ?_⟩
  · obtain ⟨s, hs, rfl⟩ := List.mem_map.mp (show t ∈ w.tabs.map _ from ht)
    rw [sort_mem] at hd
    rcases List.mem_append.mp hd with q | q <;> exact W.dots s hs d q
  · obtain ⟨s, hs, rfl⟩ := List.mem_map.mp (show t ∈ w.tabs.map _ from ht)
    exact sort_pw TO.ltG _
theorem bes_exch (W : Wf w) (P : Pm w.h o) : exch (beside w w) o = beside (exch w o) (exch w o) := by
  have B := bes_wf W
  rw [B.ex, bes_tabs (exch w o), W.ex]
  show (⟨o.length, (beside w w).odd, (beside w w).tabs.map (pt o)⟩ : Way) = ⟨o.length, w.odd, (w.tabs.map (pt o)).map fun t => sortBy ltG (t ++ t)⟩
  rw [bes_tabs w]
  congr 1
  rw [List.map_map, List.map_map]
  refine List.map_congr_left fun t _ => ?_
  show pt o (sortBy ltG (t ++ t)) = sortBy ltG (pt o t ++ pt o t)
  unfold pt
  refine sort_eq TO.ltG (((sort_perm (t ++ t)).map _).trans ?_)
  rw [List.map_append]
  exact ((sort_perm _).append (sort_perm _)).symm
theorem ton_wf (W : Wf w) {ts : List Nat} (ht : ∀ i ∈ ts, i < w.tabs.length) : Wf (toned w ts) := by
  unfold toned
  refine ⟨fun t h1 d hd => ?_, fun t h1 => ?_⟩
  · obtain ⟨i, hi, rfl⟩ := List.mem_map.mp (show t ∈ ts.map _ from h1)
    exact W.dots _ (getD_mem (ht i hi)) d hd
  · obtain ⟨i, hi, rfl⟩ := List.mem_map.mp (show t ∈ ts.map _ from h1)
    exact W.srt _ (getD_mem (ht i hi))
theorem ton_exch (W : Wf w) {ts : List Nat} (ht : ∀ i ∈ ts, i < w.tabs.length) : exch (toned w ts) o = toned (exch w o) ts := by
  have T := ton_wf W ht
  rw [T.ex, W.ex]
  show (⟨o.length, w.odd, (ts.map fun i => w.tabs.getD i []).map (pt o)⟩ : Way) = ⟨o.length, w.odd, ts.map fun i => (w.tabs.map (pt o)).getD i []⟩
  congr 1
  rw [List.map_map]
  exact List.map_congr_left fun i hi => (getD_map (pt o) (a := []) (ht i hi)).symm
/-! slim -/
theorem count_pull (P : Pm h o) {t : Tab} (ht : ∀ d ∈ t, d ∈ groups h) {g : Grp} (hg : g ∈ groups h) : (pt o t).count g = t.count (led o g) := by
  unfold pt
  rw [List.perm_iff_count.mp (sort_perm _) g]
  unfold List.count
  rw [List.countP_map]
  refine List.countP_congr fun d hd => ?_
  show (pull o d == g) = true ↔ (d == led o g) = true
  rw [beq_iff_eq, beq_iff_eq]
  constructor
  · intro e
    rw [← e, led_pull P (ht d hd)]
  · intro e
    rw [e, pull_led P hg]
/-- the least number of a dot -/
def least1 (w : Way) (g : Grp) : Nat := minN (w.tabs.map fun t => t.count g)
theorem common_eq (w : Way) : commonOf w = (groups w.h).map (least1 w) := by
  unfold commonOf
  refine List.ext_getElem? fun i => ?_
  rw [List.getElem?_map, List.getElem?_map]
  by_cases hi : i < (groups w.h).length
  · rw [List.getElem?_range hi, List.getElem?_eq_getElem hi]
    show some _ = some _
    congr 1
    show minN ((w.tabs.map (rowOf w.h)).map fun row => row.getD i 0) = minN (w.tabs.map fun t => t.count (groups w.h)[i])
    rw [List.map_map]
    congr 1
    refine List.map_congr_left fun t _ => ?_
    show (rowOf w.h t).getD i 0 = _
    unfold rowOf
    rw [getD_map (fun g => t.count g) (a := []) hi, List.getD_eq_getElem?_getD, List.getElem?_eq_getElem hi]
    rfl
  · rw [List.getElem?_eq_none (by rw [List.length_range]; omega), List.getElem?_eq_none (by omega)]
    rfl
theorem zip_maps {α : Type} (f g : α → Nat) : ∀ xs : List α, ((xs.map f).zip (xs.map g)).map (fun q => q.1 - q.2) = xs.map fun x => f x - g x
  | [] => rfl
  | x :: xs => by rw [List.map_cons, List.map_cons, List.zip_cons_cons, List.map_cons, zip_maps f g xs, List.map_cons]
theorem less_eq (w : Way) : lessOf w = w.tabs.map fun t => (groups w.h).map fun g => t.count g - least1 w g := by
  unfold lessOf
  rw [List.map_map, common_eq]
  refine List.map_congr_left fun t _ => ?_
  show ((rowOf w.h t).zip _).map _ = _
  unfold rowOf
  exact zip_maps _ _ _
/-- a table by how often each dot stands in it -/
def by_ (h : Nat) (φ : Grp → Nat) : Tab := (groups h).flatMap fun g => List.replicate (φ g) g
theorem zip_flat (φ : Grp → Nat) : ∀ gs : List Grp, (gs.zip (gs.map φ)).flatMap (fun q => List.replicate q.2 q.1) = gs.flatMap fun g => List.replicate (φ g) g
  | [] => rfl
  | g :: gs => by rw [List.map_cons, List.zip_cons_cons, List.flatMap_cons, List.flatMap_cons, zip_flat φ gs]
theorem tableBy_eq (h : Nat) (φ : Grp → Nat) : tableBy h ((groups h).map φ) = by_ h φ := zip_flat φ _
theorem by_mem {φ : Grp → Nat} {g : Grp} (hg : g ∈ by_ h φ) : g ∈ groups h := by
  obtain ⟨x, hx, q⟩ := List.mem_flatMap.mp hg
  rw [(List.mem_replicate.mp q).2]
  exact hx
theorem by_pw (φ : Grp → Nat) : (by_ h φ).Pairwise (Le ltG) := by
  unfold by_
  rw [List.pairwise_flatMap]
  refine ⟨fun g _ => ?_, ?_⟩
  · rw [List.pairwise_replicate]
    right
    unfold Le
    rw [TO.ltG.irr]
    rfl
  · refine (groups_pw h).imp fun {a b} q x hx y hy => ?_
    rw [(List.mem_replicate.mp hx).2, (List.mem_replicate.mp hy).2]
    unfold Le
    rw [TO.ltG.asym q]
    rfl
theorem by_count (φ : Grp → Nat) {g : Grp} (hg : g ∈ groups h) : (by_ h φ).count g = φ g := by
  unfold by_
  have : ∀ gs : List Grp, gs.Nodup → (gs.flatMap fun x => List.replicate (φ x) x).count g = if g ∈ gs then φ g else 0 := by
    intro gs
    induction gs with
    | nil => intro _; rfl
    | cons x xs ih =>
      intro hn
      rw [List.nodup_cons] at hn
      rw [List.flatMap_cons, List.count_append, ih hn.2, List.count_replicate]
      by_cases e : x = g
      · subst e
        rw [if_neg hn.1, if_pos List.mem_cons_self]
        simp
      · have e2 : (x == g) = false := beq_false_of_ne e
        rw [e2]
        by_cases q : g ∈ xs
        · rw [if_pos q, if_pos (List.mem_cons_of_mem _ q)]
          simp
        · have n : g ∉ x :: xs := fun z => by
            rcases List.mem_cons.mp z with z | z
            · exact e z.symm
            · exact q z
          rw [if_neg q, if_neg n]
          simp
  rw [this _ (groups_nodup h), if_pos hg]
theorem by_count0 (φ : Grp → Nat) {g : Grp} (hg : g ∉ groups h) : (by_ h φ).count g = 0 := List.count_eq_zero.mpr fun q => hg (by_mem q)
theorem by_pull (P : Pm h o) (φ : Grp → Nat) : pt o (by_ h φ) = by_ h fun g => φ (led o g) := by
  refine pw_eq TO.ltG (sort_pw TO.ltG _) (by_pw _) (List.perm_iff_count.mpr fun g => ?_)
  show (pt o (by_ h φ)).count g = _
  by_cases hg : g ∈ groups h
  · rw [count_pull P (fun d hd => by_mem hd) hg, by_count _ (led_grp P hg), by_count _ hg]
  · rw [by_count0 _ hg]
    refine List.count_eq_zero.mpr fun q => ?_
    obtain ⟨e, _, rfl⟩ := mem_pt.mp q
    exact hg (pull_grp P)
theorem by_congr {φ ψ : Grp → Nat} (e : ∀ g ∈ groups h, φ g = ψ g) : by_ h φ = by_ h ψ := by
  refine pw_eq TO.ltG (by_pw _) (by_pw _) (List.perm_iff_count.mpr fun g => ?_)
  by_cases hg : g ∈ groups h
  · rw [by_count _ hg, by_count _ hg, e g hg]
  · rw [by_count0 _ hg, by_count0 _ hg]
def slimBig (w : Way) : Way := ⟨w.h, w.odd, w.tabs.map fun t => by_ w.h fun g => t.count g - least1 w g⟩
theorem slim_eq (w : Way) : slim w = if ((groups w.h).map (least1 w)).sum = (w.tabs.getD 0 []).length then ⟨w.h, w.odd, List.replicate w.tabs.length [[]]⟩ else slimBig w := by
  unfold slim slimBig
  rw [common_eq, less_eq, List.map_map]
  have : w.tabs.map (tableBy w.h ∘ fun t => (groups w.h).map fun g => t.count g - least1 w g) = w.tabs.map fun t => by_ w.h fun g => t.count g - least1 w g := List.map_congr_left fun t _ => tableBy_eq _ _
  rw [this]
theorem least1_exch (W : Wf w) (P : Pm w.h o) {g : Grp} (hg : g ∈ groups w.h) : least1 (exch w o) g = least1 w (led o g) := by
  unfold least1
  rw [W.ex]
  show minN ((w.tabs.map (pt o)).map fun t => t.count g) = _
  rw [List.map_map]
  congr 1
  exact List.map_congr_left fun t ht => count_pull P (W.dots t ht) hg
theorem groups_led (P : Pm h o) : ((groups h).map (led o)).Perm (groups h) := by
  have nd : ((groups h).map (led o)).Nodup := by
    unfold List.Nodup
    rw [List.pairwise_map]
    exact List.Pairwise.imp_of_mem (fun {a b} ha hb q z => q ((led_eq P ha hb).mp z)) (groups_nodup h)
  refine (List.perm_ext_iff_of_nodup nd (groups_nodup h)).mpr fun g => ?_
  rw [List.mem_map]
  constructor
  · rintro ⟨x, hx, rfl⟩
    exact led_grp P hx
  · exact fun hg => ⟨pull o g, pull_grp P, led_pull P hg⟩
theorem sum_perm {a b : List Nat} (q : a.Perm b) : a.sum = b.sum := by
  induction q with
  | nil => rfl
  | cons x _ ih => rw [List.sum_cons, List.sum_cons, ih]
  | swap x y l =>
    rw [List.sum_cons, List.sum_cons, List.sum_cons, List.sum_cons]
    omega
  | trans _ _ h1 h2 => exact h1.trans h2
theorem common_exch (W : Wf w) (P : Pm w.h o) : ((groups w.h).map (least1 (exch w o))).sum = ((groups w.h).map (least1 w)).sum := by
  have : (groups w.h).map (least1 (exch w o)) = ((groups w.h).map (led o)).map (least1 w) := by
    rw [List.map_map]
    exact List.map_congr_left fun g hg => least1_exch W P hg
  rw [this]
  exact sum_perm ((groups_led P).map _)
theorem pt_len (t : Tab) : (pt o t).length = t.length := by
  unfold pt
  rw [sort_len, List.length_map]
theorem slimBig_wf (w : Way) : Wf (slimBig w) := by
  unfold slimBig
  refine ⟨fun t ht d hd => ?_, fun t ht => ?_⟩
  · obtain ⟨s, _, rfl⟩ := List.mem_map.mp (show t ∈ w.tabs.map _ from ht)
    exact by_mem hd
  · obtain ⟨s, _, rfl⟩ := List.mem_map.mp (show t ∈ w.tabs.map _ from ht)
    exact by_pw _
theorem nil_grp (h : Nat) : [] ∈ groups h := mem_groups.mpr ⟨.nil, fun _ z => nomatch z⟩
theorem slim_wf (w : Way) : Wf (slim w) := by
  rw [slim_eq]
  split
  · refine ⟨fun t ht d hd => ?_, fun t ht => ?_⟩
    · rw [(List.mem_replicate.mp (show t ∈ List.replicate w.tabs.length [[]] from ht)).2] at hd
      rw [List.mem_singleton.mp hd]
      exact nil_grp _
    · rw [(List.mem_replicate.mp (show t ∈ List.replicate w.tabs.length [[]] from ht)).2]
      exact List.pairwise_singleton _ _
  · exact slimBig_wf w
theorem slim_h (w : Way) : (slim w).h = w.h := by
  rw [slim_eq]
  split <;> rfl
theorem slim_exch (W : Wf w) (P : Pm w.h o) (hne : w.tabs ≠ []) : exch (slim w) o = slim (exch w o) := by
  have hh := exch_h P
  have e1 : ((exch w o).tabs.getD 0 []).length = (w.tabs.getD 0 []).length := by
    rw [W.ex]
    show ((w.tabs.map (pt o)).getD 0 []).length = _
    rw [getD_map (pt o) (a := []) (List.length_pos_iff.mpr hne), pt_len]
  rw [slim_eq (exch w o), hh, common_exch W P, e1, exch_len W, exch_odd W]
  have S := slim_wf w
  rw [slim_eq] at S ⊢
  by_cases c : ((groups w.h).map (least1 w)).sum = (w.tabs.getD 0 []).length
  · rw [if_pos c] at S ⊢
    rw [if_pos c, S.ex, P.len]
    show (⟨w.h, w.odd, (List.replicate w.tabs.length [[]]).map (pt o)⟩ : Way) = _
    rw [List.map_replicate]
    have : pt o [[]] = [[]] := by
      unfold pt
      have : pull o [] = [] := by
        cases q : pull o [] with
        | nil => rfl
        | cons x xs =>
          have := (mem_pull.mp (show x ∈ pull o [] by rw [q]; exact List.mem_cons_self)).2
          cases this
      rw [List.map_cons, List.map_nil, this]
      exact sort_id TO.ltG (List.pairwise_singleton _ _)
    rw [this]
  · rw [if_neg c] at S ⊢
    rw [if_neg c, S.ex, P.len]
    unfold slimBig
    rw [hh, exch_odd W]
    have et : (exch w o).tabs = w.tabs.map (pt o) := by rw [W.ex]
    rw [et]
    congr 1
    show (w.tabs.map fun t => by_ w.h fun g => t.count g - least1 w g).map (pt o) = (w.tabs.map (pt o)).map fun t => by_ w.h fun g => t.count g - least1 (exch w o) g
    rw [List.map_map, List.map_map]
    refine List.map_congr_left fun t ht => ?_
    show pt o (by_ w.h fun g => t.count g - least1 w g) = by_ w.h fun g => (pt o t).count g - least1 (exch w o) g
    rw [by_pull P]
    exact by_congr fun g hg => by rw [count_pull P (W.dots t ht) hg, least1_exch W P hg]
end
end K42
/-! ## KLay1 -/
/-! A layer of data over HandS: what an expression gives as a datum, in an environment of data -/
namespace K42
open PySem PySem.Spec L2
open PyProof.Rows hiding St

/-! ### data: a tuple is marked true where its object is known to bear no dict -/
inductive Da where
  | none
  | bool (b : Bool)
  | int (i : Int)
  | str (x : Str)
  | list (xs : List Da)
  | tuple (k : Bool) (xs : List Da)
  /-- a dict whose keys and values are tuples of whole numbers -/
  | dct (f : List Nat → Option (List Nat))
  /-- the script: a list of whole numbers that may stand in what is known -/
  | scr (K : PySem.W.Frag) (ns : List Int)
/-- whole numbers as values, as a key -/
def vN (g : List Nat) : List V := g.map fun n : Nat => V.int (n : Int)
def kN (g : List Nat) : List Key := g.map fun n : Nat => Sum.inl (n : Int)
theorem kN_v (g : List Nat) : (kN g).map kV = vN g := by
  unfold kN vN
  rw [List.map_map]
  rfl
theorem kN_inj {g h : List Nat} (e : kN g = kN h) : g = h := by
  induction g generalizing h with
  | nil => cases h with
    | nil => rfl
    | cons _ _ => cases e
  | cons a r ih => cases h with
    | nil => cases e
    | cons b t =>
      unfold kN at e
      rw [List.map_cons, List.map_cons] at e
      injection e with e1 e2
      injection e1 with e1
      rw [ih e2, Int.ofNat.inj e1]
mutual
def er : Da → PyData
  | .none => .none
  | .bool b => .bool b
  | .int i => .int i
  | .str x => .str x
  | .list xs => .list (erAll xs)
  | .tuple _ xs => .tuple (erAll xs)
  | .dct _ => .dict []
  | .scr _ _ => .dict []
def erAll : List Da → List PyData
  | [] => []
  | x :: xs => er x :: erAll xs
end
theorem erAll_eq : ∀ xs : List Da, erAll xs = xs.map er
  | [] => by rw [erAll]; rfl
  | x :: xs => by rw [erAll, erAll_eq xs]; rfl

/-! ### data in an abstract heap, exactly tracked -/
/-- a tuple at a -/
def TupAt (G : Hp) : Bool → Addr → List V → Prop
  | false, a, xs => G a = some (.tup xs)
  | true, a, xs => ∃ o : Obj, G a = some (.frz o (.tup xs)) ∧ o.cls = .type "tuple" ∧ o.dict = .none
theorem TupAt.mono {G G' : Hp} (s : Same G G') : ∀ {k : Bool} {a : Addr} {xs : List V}, TupAt G k a xs → TupAt G' k a xs
  | false, _, _, h => s _ _ h
  | true, _, _, ⟨o, h, q⟩ => ⟨o, s _ _ h, q⟩
theorem TupAt.sqt {K : PySem.W.Frag} {G : Hp} : ∀ {k : Bool} {a : Addr} {xs : List V}, TupAt G k a xs → SqT K G a xs
  | false, _, _, h => .inl (.inl h)
  | true, _, _, ⟨o, h, _⟩ => .inl (.inr ⟨o, h⟩)
mutual
inductive Dx (G : Hp) : V → Da → Prop
  | non : Dx G .non .none
  | bl (b : Bool) : Dx G (.bl b) (.bool b)
  | int (i : Int) : Dx G (.int i) (.int i)
  | str (x : Str) : Dx G (.str x) (.str x)
  | lst {a : Addr} {xs : List V} {ds : List Da} : G a = some (.lst xs) → DxAll G xs ds → Dx G (.ref a) (.list ds)
  | tup {k : Bool} {a : Addr} {xs : List V} {ds : List Da} : TupAt G k a xs → DxAll G xs ds → Dx G (.ref a) (.tuple k ds)
  | dct {a : Addr} {kvs : List (List Key × V)} {f : List Nat → Option (List Nat)} : G a = some (.dT kvs) → (∀ g r, f g = some r → ∃ b, valV kvs (kN g) = some (.ref b) ∧ G b = some (.tup (vN r))) → Dx G (.ref a) (.dct f)
  | scr {K : PySem.W.Frag} {a : Addr} {ns : List Int} : SqL K G a (ns.map V.int) → Dx G (.ref a) (.scr K ns)
inductive DxAll (G : Hp) : List V → List Da → Prop
  | nil : DxAll G [] []
  | cons {v : V} {vs : List V} {d : Da} {ds : List Da} : Dx G v d → DxAll G vs ds → DxAll G (v :: vs) (d :: ds)
end

section
variable {G G' : Hp}
mutual
theorem Dx.mono (s : Same G G') : ∀ (d : Da) {v : V}, Dx G v d → Dx G' v d
  | .none, _, h => by cases h; exact .non
  | .bool _, _, h => by cases h; exact .bl _
  | .int _, _, h => by cases h; exact .int _
  | .str _, _, h => by cases h; exact .str _
  | .list ds, _, h => by
    cases h with
    | lst h1 h2 => exact .lst (s _ _ h1) (DxAll.mono s ds h2)
  | .tuple _ ds, _, h => by
    cases h with
    | tup h1 h2 => exact .tup (h1.mono s) (DxAll.mono s ds h2)
  | .dct _, _, h => by
    cases h with
    | dct h1 h2 =>
     exact .dct (s _ _ h1) fun g r e => by
      obtain ⟨b, k1, k2⟩ := h2 g r e
      exact ⟨b, k1, s _ _ k2⟩
  | .scr _ _, _, h => by
    cases h with
    | scr h1 => exact .scr (s.seq h1)
theorem DxAll.mono (s : Same G G') : ∀ (ds : List Da) {vs : List V}, DxAll G vs ds → DxAll G' vs ds
  | [], _, h => by cases h; exact .nil
  | d :: ds, _, h => by
    cases h with
    | cons h1 h2 => exact .cons (Dx.mono s d h1) (DxAll.mono s ds h2)
end
mutual
theorem Dx.dp (K : PySem.W.Frag) : ∀ (d : Da) {v : V}, (er d).plain = true → Dx G v d → Dp K G v (er d)
  | .none, _, _, h => by cases h; rw [er]; exact .non
  | .bool _, _, _, h => by cases h; rw [er]; exact .bl _
  | .int _, _, _, h => by cases h; rw [er]; exact .int _
  | .str _, _, _, h => by cases h; rw [er]; exact .str _
  | .list ds, _, p, h => by
    cases h with
    | lst h1 h2 =>
      rw [er, PyData.plain] at p
      rw [er]
      exact .lst (SqL.of h1) (DxAll.dp K ds p h2)
  | .tuple _ ds, _, p, h => by
    cases h with
    | tup h1 h2 =>
      rw [er, PyData.plain] at p
      rw [er]
      exact .tup h1.sqt (DxAll.dp K ds p h2)
  | .dct _, _, p, _ => by rw [er, PyData.plain] at p; cases p
  | .scr _ _, _, p, _ => by rw [er, PyData.plain] at p; cases p
theorem DxAll.dp (K : PySem.W.Frag) : ∀ (ds : List Da) {vs : List V}, PyData.plainAll (erAll ds) = true → DxAll G vs ds → DpAll K G vs (erAll ds)
  | [], _, _, h => by cases h; rw [erAll]; exact .nil
  | d :: ds, _, p, h => by
    cases h with
    | cons h1 h2 =>
      rw [erAll, PyData.plainAll, Bool.and_eq_true] at p
      rw [erAll]
      exact .cons (Dx.dp K d p.1 h1) (DxAll.dp K ds p.2 h2)
end
theorem DxAll.length : ∀ {vs : List V} {ds : List Da}, DxAll G vs ds → vs.length = ds.length
  | _, _, .nil => rfl
  | _, _, .cons _ t => by rw [List.length_cons, List.length_cons, DxAll.length t]
theorem DxAll.get : ∀ {vs : List V} {ds : List Da}, DxAll G vs ds → ∀ {i : Nat} {d : Da}, ds[i]? = some d → ∃ v, vs[i]? = some v ∧ Dx G v d
  | _, _, .nil, i, d, e => by simp at e
  | _, _, .cons (v := v) (d := d') h t, 0, d, e => by
    have e' : d' = d := by simpa using e
    subst e'
    exact ⟨v, rfl, h⟩
  | _, _, .cons h t, i + 1, d, e => by
    obtain ⟨v, h1, h2⟩ := DxAll.get t (i := i) (d := d) (by simpa using e)
    exact ⟨v, by simpa using h1, h2⟩
theorem DxAll.get' : ∀ {vs : List V} {ds : List Da}, DxAll G vs ds → ∀ {i : Nat} {v : V}, vs[i]? = some v → ∃ d, ds[i]? = some d ∧ Dx G v d
  | _, _, .nil, i, d, e => by simp at e
  | _, _, .cons (v := v') (d := d') h t, 0, v, e => by
    have e' : v' = v := by simpa using e
    subst e'
    exact ⟨d', rfl, h⟩
  | _, _, .cons h t, i + 1, v, e => by
    obtain ⟨d, h1, h2⟩ := DxAll.get' t (i := i) (v := v) (by simpa using e)
    exact ⟨d, by simpa using h1, h2⟩
theorem DxAll.append : ∀ {vs : List V} {ds : List Da} {ws : List V} {es : List Da}, DxAll G vs ds → DxAll G ws es → DxAll G (vs ++ ws) (ds ++ es)
  | _, _, _, _, .nil, k => k
  | _, _, _, _, .cons h t, k => .cons h (DxAll.append t k)
theorem DxAll.set {v : V} {d : Da} (h : Dx G v d) : ∀ {vs : List V} {ds : List Da} (i : Nat), DxAll G vs ds → DxAll G (vs.set i v) (ds.set i d)
  | _, _, _, .nil => .nil
  | _, _, 0, .cons _ t => .cons h t
  | _, _, i + 1, .cons q t => .cons q (DxAll.set h i t)
theorem DxAll.drop : ∀ {vs : List V} {ds : List Da} (n : Nat), DxAll G vs ds → DxAll G (vs.drop n) (ds.drop n)
  | _, _, 0, r => r
  | _, _, _ + 1, .nil => .nil
  | _, _, n + 1, .cons _ t => DxAll.drop n t
theorem DxAll.take : ∀ {vs : List V} {ds : List Da} (n : Nat), DxAll G vs ds → DxAll G (vs.take n) (ds.take n)
  | _, _, 0, _ => .nil
  | _, _, _ + 1, .nil => .nil
  | _, _, n + 1, .cons r t => .cons r (DxAll.take n t)
theorem DxAll.rep {vs : List V} {ds : List Da} (h : DxAll G vs ds) : ∀ k : Nat, DxAll G (List.replicate k vs).flatten (List.replicate k ds).flatten
  | 0 => .nil
  | k + 1 => by
    rw [List.replicate_succ, List.replicate_succ, List.flatten_cons, List.flatten_cons]
    exact h.append (DxAll.rep h k)
theorem DxAll.nil_iff {vs : List V} {ds : List Da} (h : DxAll G vs ds) : vs = [] ↔ ds = [] := by
  cases h <;> simp
theorem DxAll.int_of : ∀ {vs : List V} {ns : List Int}, DxAll G vs (ns.map Da.int) → vs = ns.map V.int
  | _, [], h => by cases h; rfl
  | _, n :: ns, h => by
    cases h with
    | cons h1 h2 =>
      cases h1
      rw [List.map_cons, ← DxAll.int_of h2]
theorem DxAll.bl_of : ∀ {vs : List V} {ns : List Bool}, DxAll G vs (ns.map Da.bool) → vs = ns.map V.bl
  | _, [], h => by cases h; rfl
  | _, n :: ns, h => by
    cases h with
    | cons h1 h2 =>
      cases h1
      rw [List.map_cons, ← DxAll.bl_of h2]
theorem DxAll.ints (G : Hp) : ∀ (ns : List Int), DxAll G (ns.map V.int) (ns.map Da.int)
  | [] => .nil
  | n :: ns => .cons (.int n) (DxAll.ints G ns)
end

/-! ### how a heap grows -/
structure Ext (G H G' H' : Hp) : Prop where
  hh : Same H H'
  gh : Same G' H'
  new : ∀ a, H a ≠ none → G' a = G a
theorem Ext.refl {G H : Hp} (h : Same G H) : Ext G H G H := ⟨Same.refl H, h, fun _ _ => rfl⟩
theorem Ext.gg {G H G' H' : Hp} (x : Ext G H G' H') (h : Same G H) : Same G G' := fun a o e => by
  have q := h a o e
  rw [x.new a (by rw [q]; exact fun z => nomatch z)]
  exact e
theorem Ext.trans {G H G1 H1 G2 H2 : Hp} (x : Ext G H G1 H1) (y : Ext G1 H1 G2 H2) : Ext G H G2 H2 :=
  ⟨x.hh.trans y.hh, y.gh, fun a h => by
    have h1 : H1 a ≠ none := fun z => h (x.hh.free z)
    rw [y.new a h1, x.new a h]⟩
theorem same_upd {H : Hp} {p : Addr} {o : HO} (h : H p = none) : Same H (upd H p o) := fun b x e => by
  rw [upd_ne (ne_of_none e h)]
  exact e
theorem same_upd2 {G H : Hp} {p : Addr} {o : HO} (h : Same G H) : Same (upd G p o) (upd H p o) := fun b x e => by
  by_cases hb : b = p
  · subst hb
    rw [upd_same] at e ⊢
    exact e
  · rw [upd_ne hb] at e ⊢
    exact h b x e
theorem same_updR {G H : Hp} {p : Addr} {o : HO} (h : Same G H) (g : G p = none) : Same G (upd H p o) := fun b x e => by
  rw [upd_ne (ne_of_none e g)]
  exact h b x e
theorem Ext.add {G H : Hp} {p : Addr} {o : HO} (h : Same G H) (n : H p = none) : Ext G H (upd G p o) (upd H p o) :=
  ⟨same_upd n, same_upd2 h, fun a ha => by rw [upd_ne (fun e => ha (by rw [e]; exact n))]⟩

/-! ### an environment of data -/
abbrev Rho := List (Option Da)
def EOk (G : Hp) (σ : St) (ρ : Rho) : Prop := ∀ (i : Nat) (d : Da), ρ[i]? = some (some d) → ∃ v, σ[i]? = some (some v) ∧ Dx G v d
theorem EOk.mono {G G' : Hp} {σ : St} {ρ : Rho} (s : Same G G') (h : EOk G σ ρ) : EOk G' σ ρ := fun i d e => by
  obtain ⟨v, h1, h2⟩ := h i d e
  exact ⟨v, h1, Dx.mono s d h2⟩
theorem EOk.set {G : Hp} {σ : St} {ρ : Rho} {i : Nat} {v : V} {d : Da} (hl : ρ.length ≤ σ.length) (h : EOk G σ ρ) (hd : Dx G v d) : EOk G (σ.set i (some v)) (ρ.set i (some d)) := fun j e hj => by
  by_cases hij : i = j
  · subst hij
    by_cases hi : i < ρ.length
    · rw [List.getElem?_set_self hi] at hj
      have e' : d = e := by simpa using hj
      subst e'
      exact ⟨v, List.getElem?_set_self (by omega), hd⟩
    · rw [List.getElem?_eq_none (by rw [List.length_set]; omega)] at hj
      cases hj
  · rw [List.getElem?_set_ne hij] at hj
    obtain ⟨w, h1, h2⟩ := h j e hj
    exact ⟨w, by rw [List.getElem?_set_ne hij]; exact h1, h2⟩
def wipeR (ρ : Rho) : List Nat → Rho
  | [] => ρ
  | v :: vs => (wipeR ρ vs).set v none
theorem wipeR_length (ρ : Rho) : ∀ vs : List Nat, (wipeR ρ vs).length = ρ.length
  | [] => rfl
  | v :: vs => by unfold wipeR; rw [List.length_set, wipeR_length ρ vs]
theorem EOk.set_none {G : Hp} {σ : St} {ρ : Rho} {i : Nat} {w : Option V} (h : EOk G σ ρ) : EOk G (σ.set i w) (ρ.set i none) := fun j e hj => by
  by_cases hij : i = j
  · subst hij
    by_cases hi : i < ρ.length
    · rw [List.getElem?_set_self hi] at hj; cases hj
    · rw [List.getElem?_eq_none (by rw [List.length_set]; omega)] at hj; cases hj
  · rw [List.getElem?_set_ne hij] at hj
    obtain ⟨v, h1, h2⟩ := h j e hj
    exact ⟨v, by rw [List.getElem?_set_ne hij]; exact h1, h2⟩
theorem EOk.wipe {G : Hp} {σ : St} {ρ : Rho} (h : EOk G σ ρ) : ∀ vs : List Nat, EOk G (wipe σ vs) (wipeR ρ vs)
  | [] => h
  | v :: vs => EOk.set_none (EOk.wipe h vs)
/-- ρ' knows what ρ knows -/
def RLe (ρ ρ' : Rho) : Prop := ∀ (i : Nat) (d : Da), ρ[i]? = some (some d) → ρ'[i]? = some (some d)
theorem RLe.refl (ρ : Rho) : RLe ρ ρ := fun _ _ h => h
theorem EOk.le {G : Hp} {σ : St} {ρ ρ' : Rho} (h : RLe ρ ρ') (k : EOk G σ ρ') : EOk G σ ρ := fun i d e => k i d (h i d e)

/-! ### the judgements -/
section
variable {X : Cx}
def tW (X : Cx) (e : Expr) : TE := fun σ H Q => ∀ pins s, Inv X pins σ H s → wpAny (model X.prog X.w) X.A (eval e X.env) (EP X pins σ Q) X.xe s
theorem pe_w (e : Expr) : PE X e (tW X e) := ⟨fun pins s σ H Q I h => h pins s I⟩
def tWT (X : Cx) (e : Expr) : TT := fun σ H Q => ∀ pins s, Inv X pins σ H s → wpAny (model X.prog X.w) X.A (isTrue e X.env (eval e X.env)) (TP X pins σ Q) X.xe s
theorem pt_w (e : Expr) : PT X e (tWT X e) := ⟨fun pins s σ H Q I h => h pins s I⟩
def tWA (X : Cx) (es : List Expr) : TA := fun σ H Q => ∀ pos pins s, Inv X pins σ H s → wpAny (model X.prog X.w) X.A (spliced (backTo pos (starEach es X.env))) (AP X pins σ Q) X.xe s
theorem pa_w (es : List Expr) : PA X es (tWA X es) := ⟨fun pos pins s σ H Q I h => h pos pins s I⟩
def tWI (X : Cx) (tg iter : Expr) : TI := fun σ H R => ∀ pins s, Inv X pins σ H s → wpAny (model X.prog X.w) X.A (eval iter X.env) (fun v s1 => wpAny (model X.prog X.w) X.A (pyIter v) (PIE X pins σ tg R) X.xe s1) X.xe s
theorem pi_w (tg iter : Expr) : PI X tg iter (tWI X tg iter) := ⟨fun pins s σ H R I h => h pins s I⟩

/-- e gives the datum d -/
def PV (X : Cx) (e : Expr) (ρ : Rho) (d : Da) : Prop :=
  ∀ σ G H Q, Same G H → ρ.length ≤ σ.length → EOk G σ ρ → (∀ v G' H', Ext G H G' H' → Dx G' v d → Q v H') → tW X e σ H Q
def PTV (X : Cx) (e : Expr) (ρ : Rho) (b : Bool) : Prop :=
  ∀ σ G H Q, Same G H → ρ.length ≤ σ.length → EOk G σ ρ → (∀ G' H', Ext G H G' H' → Q b H') → tWT X e σ H Q
def PAV (X : Cx) (es : List Expr) (ρ : Rho) (ds : List Da) : Prop :=
  ∀ σ G H Q, Same G H → ρ.length ≤ σ.length → EOk G σ ρ → (∀ vs G' H', Ext G H G' H' → DxAll G' vs ds → Q vs H') → tWA X es σ H Q
/-- an iterator that gives the data ds -/
structure WalkD (J : It) (G : Hp) (ds : List Da) : Prop where
  small : ds.length ≤ sizeLine
  go : ∀ G1 H, Same G G1 → Same G1 H → ∀ i, i < ds.length → J.go i H
  stop : ∀ G1 H, Same G G1 → Same G1 H → J.stop ds.length H
  yld : ∀ G1 H, Same G G1 → Same G1 H → ∀ i d x H', ds[i]? = some d → J.yld i H x H' → ∃ G2, Ext G1 H G2 H' ∧ Dx G2 x d
def PIV (X : Cx) (tg iter : Expr) (ρ : Rho) (ds : List Da) : Prop :=
  ∀ σ G H R, Same G H → ρ.length ≤ σ.length → EOk G σ ρ → (∀ J G' H', Ext G H G' H' → WalkD J G' ds → R J H') → tWI X tg iter σ H R

variable {e : Expr} {es : List Expr} {t : TE} {ρ ρ' : Rho} {d : Da} {ds : List Da}
theorem PE.pv (h : PE X e t) (q : ∀ σ G H Q, Same G H → ρ.length ≤ σ.length → EOk G σ ρ → (∀ v G' H', Ext G H G' H' → Dx G' v d → Q v H') → t σ H Q) : PV X e ρ d :=
  fun σ G H Q sg hl he hq pins s I => h.run pins s σ H Q I (q σ G H Q sg hl he hq)
theorem PT.ptv {t : TT} {b : Bool} (h : PT X e t) (q : ∀ σ G H Q, Same G H → ρ.length ≤ σ.length → EOk G σ ρ → (∀ G' H', Ext G H G' H' → Q b H') → t σ H Q) : PTV X e ρ b :=
  fun σ G H Q sg hl he hq pins s I => h.run pins s σ H Q I (q σ G H Q sg hl he hq)
theorem PA.pav {t : TA} (h : PA X es t) (q : ∀ σ G H Q, Same G H → ρ.length ≤ σ.length → EOk G σ ρ → (∀ vs G' H', Ext G H G' H' → DxAll G' vs ds → Q vs H') → t σ H Q) : PAV X es ρ ds :=
  fun σ G H Q sg hl he hq pos pins s I => h.run pos pins s σ H Q I (q σ G H Q sg hl he hq)
theorem PI.piv {tg iter : Expr} {t : TI} (h : PI X tg iter t) (q : ∀ σ G H R, Same G H → ρ.length ≤ σ.length → EOk G σ ρ → (∀ J G' H', Ext G H G' H' → WalkD J G' ds → R J H') → t σ H R) : PIV X tg iter ρ ds :=
  fun σ G H R sg hl he hq pins s I => h.run pins s σ H R I (q σ G H R sg hl he hq)
/-- an environment that knows more -/
theorem PV.le (h : PV X e ρ d) (r : RLe ρ ρ') (hl : ρ.length = ρ'.length) : PV X e ρ' d := fun σ G H Q sg hz he hq => h σ G H Q sg (by omega) (he.le r) hq
theorem PV.cast {d' : Da} (h : PV X e ρ d) (q : d = d') : PV X e ρ d' := q ▸ h

/-! names, constants -/
theorem pvn (i : Nat) {x : Str} {pos : Pos} (h : ρ[i]? = some (some d)) (hN : X.N[i]? = some x := by rfl) (hv : Vis X.env.scope x := by first | exact Or.inl rfl | exact Or.inr (Or.inl rfl) | exact Or.inr (Or.inr rfl)) (hd : (x == ("__debug__" : Str)) = false := by decide)
    (hcd : (x == ("__classdict__" : Str)) = false := by decide) : PV X (.Name x pos) ρ d :=
  PE.pv (pe_var hN hv hd hcd) fun σ G H Q sg hl he hq => by
    obtain ⟨v, h1, h2⟩ := he i d h
    exact ⟨v, h1, hq v G H (.refl sg) h2⟩
theorem pv_int {i : Int} {j pos} : PV X (.Constant (.int i) j pos) ρ (.int i) := PE.pv pe_int fun σ G H Q sg hl he hq => hq _ G H (.refl sg) (.int i)
theorem pv_bl {b : Bool} {j pos} : PV X (.Constant (.bool b) j pos) ρ (.bool b) := PE.pv pe_bl fun σ G H Q sg hl he hq => hq _ G H (.refl sg) (.bl b)
theorem pv_non {j pos} : PV X (.Constant .none j pos) ρ .none := PE.pv pe_non fun σ G H Q sg hl he hq => hq _ G H (.refl sg) .non
theorem pv_str {x : Str} {j pos} : PV X (.Constant (.str x) j pos) ρ (.str x) := PE.pv pe_str fun σ G H Q sg hl he hq => hq _ G H (.refl sg) (.str x)
theorem pv_globInt {x : Str} {n : Int} {t : Tok} {pos : Pos} (hg : Gl X x) (hm : X.mg x = some (.int n t)) (hd : (x == ("__debug__" : Str)) = false := by decide) : PV X (.Name x pos) ρ (.int n) :=
  PE.pv (pe_glob (v := .int n) hg hm ⟨_, rfl⟩ hd) fun σ G H Q sg hl he hq => hq _ G H (.refl sg) (.int n)

/-! argument lists, displays -/
theorem pav_nil : PAV X [] ρ [] := PA.pav pa_nil fun σ G H Q sg hl he hq => hq [] G H (.refl sg) .nil
theorem pav_cons (h1 : PV X e ρ d) (h2 : PAV X es ρ ds) (hs : starEach (e :: es) X.env = (false, eval e X.env) :: starEach es X.env := by rfl) : PAV X (e :: es) ρ (d :: ds) :=
  PA.pav (pa_cons (pe_w e) (pa_w es) hs) fun σ G H Q sg hl he hq => h1 σ G H _ sg hl he fun v G1 H1 x1 d1 => h2 σ G1 H1 _ x1.gh hl (he.mono (x1.gg sg)) fun vs G2 H2 x2 d2 =>
    hq (v :: vs) G2 H2 (x1.trans x2) (.cons (Dx.mono (x2.gg x1.gh) _ d1) d2)
theorem pv_tup {x1 pos} (h : PAV X es ρ ds) (hz : ds.length ≤ 1000 := by exact Nat.le_of_ble_eq_true rfl) : PV X (.Tuple es x1 pos) ρ (.tuple false ds) :=
  PE.pv (pe_tup (pa_w es)) fun σ G H Q sg hl he hq => h σ G H _ sg hl he fun vs G1 H1 x1 d1 => ⟨by rw [d1.length, sizeLine_eq]; omega, fun p hp =>
    hq (.ref p) _ _ (x1.trans (Ext.add x1.gh hp)) (.tup upd_same (DxAll.mono (same_upd (x1.gh.free hp)) _ d1))⟩
theorem pv_lst {pos} (h : PAV X es ρ ds) (hz : ds.length ≤ 1000 := by exact Nat.le_of_ble_eq_true rfl) : PV X (.List es pos) ρ (.list ds) :=
  PE.pv (pe_lst (pa_w es)) fun σ G H Q sg hl he hq => h σ G H _ sg hl he fun vs G1 H1 x1 d1 => ⟨by rw [d1.length, sizeLine_eq]; omega, fun p hp =>
    hq (.ref p) _ _ (x1.trans (Ext.add x1.gh hp)) (.lst upd_same (DxAll.mono (same_upd (x1.gh.free hp)) _ d1))⟩

/-! two operands -/
theorem pv_op {op : Operator} {r : R2} {a b : Expr} {da db : Da} {pos : Pos} (ho : OpR X (binaryOp op) r) (ha : PV X a ρ da) (hb : PV X b ρ db)
    (hr : ∀ x y G H Q, Same G H → Dx G x da → Dx G y db → (∀ v G' H', Ext G H G' H' → Dx G' v d → Q v H') → r x y H Q) : PV X (.BinOp a op b pos) ρ d :=
  PE.pv (pe_op ho (pe_w a) (pe_w b)) fun σ G H Q sg hl he hq => ha σ G H _ sg hl he fun v G1 H1 x1 d1 => hb σ G1 H1 _ x1.gh hl (he.mono (x1.gg sg)) fun u G2 H2 x2 d2 =>
    hr v u G2 H2 _ x2.gh (Dx.mono (x2.gg x1.gh) _ d1) d2 fun w G' H' x3 d3 => hq w G' H' (x1.trans (x2.trans x3)) d3
theorem pv_cmp {op : CmpOp} {r : R2} {a b : Expr} {da db : Da} {pos : Pos} (ho : OpR X (compareOp op) r) (ha : PV X a ρ da) (hb : PV X b ρ db) (hm : behindInMarks op b = false)
    (hr : ∀ x y G H Q, Same G H → Dx G x da → Dx G y db → (∀ v G' H', Ext G H G' H' → Dx G' v d → Q v H') → r x y H Q) : PV X (.Compare a [op] [b] pos) ρ d :=
  PE.pv (pe_cmpR ho (pe_w a) (pe_w b) hm) fun σ G H Q sg hl he hq => ha σ G H _ sg hl he fun v G1 H1 x1 d1 => hb σ G1 H1 _ x1.gh hl (he.mono (x1.gg sg)) fun u G2 H2 x2 d2 =>
    hr v u G2 H2 _ x2.gh (Dx.mono (x2.gg x1.gh) _ d1) d2 fun w G' H' x3 d3 => hq w G' H' (x1.trans (x2.trans x3)) d3
theorem ptv_cmp {op : CmpOp} {r : R2} {a b : Expr} {da db : Da} {pos : Pos} {c : Bool} (ho : OpR X (compareOp op) r) (ha : PV X a ρ da) (hb : PV X b ρ db) (hm : behindInMarks op b = false)
    (hr : ∀ x y G H Q, Same G H → Dx G x da → Dx G y db → (∀ v G' H', Ext G H G' H' → Dx G' v (.bool c) → Q v H') → r x y H Q) : PTV X (.Compare a [op] [b] pos) ρ c :=
  PT.ptv (pt_cmpR ho (pe_w a) (pe_w b) hm) fun σ G H Q sg hl he hq => ha σ G H _ sg hl he fun v G1 H1 x1 d1 => hb σ G1 H1 _ x1.gh hl (he.mono (x1.gg sg)) fun u G2 H2 x2 d2 =>
    hr v u G2 H2 _ x2.gh (Dx.mono (x2.gg x1.gh) _ d1) d2 fun w G' H' x3 d3 => by
      cases d3
      exact ⟨c, rfl, hq G' H' (x1.trans (x2.trans x3))⟩
end
end K42
/-! ## KLay2 -/
namespace K42
open PySem PySem.Spec L2
open PyProof.Rows hiding St
section
variable {X : Cx} {e a b : Expr} {es : List Expr} {ρ ρ' : Rho} {d da db : Da} {ds : List Da} {pos : Pos}

/-! ### whole numbers -/
theorem pv_addI {i j : Int} (ha : PV X a ρ (.int i)) (hb : PV X b ρ (.int j)) : PV X (.BinOp a .Add b pos) ρ (.int (i + j)) :=
  pv_op op_add ha hb fun x y G H Q sg hx hy hq => by
    cases hx; cases hy
    exact ⟨i, j, rfl, rfl, hq _ G H (.refl sg) (.int _)⟩
theorem pv_subI {i j : Int} (ha : PV X a ρ (.int i)) (hb : PV X b ρ (.int j)) : PV X (.BinOp a .Sub b pos) ρ (.int (i - j)) :=
  pv_op op_sub ha hb fun x y G H Q sg hx hy hq => by
    cases hx; cases hy
    exact ⟨i, j, rfl, rfl, hq _ G H (.refl sg) (.int _)⟩
theorem pv_mulI {i j : Int} (hc : CMul i j) (ha : PV X a ρ (.int i)) (hb : PV X b ρ (.int j)) : PV X (.BinOp a .Mult b pos) ρ (.int (i * j)) :=
  pv_op op_mul ha hb fun x y G H Q sg hx hy hq => by
    cases hx; cases hy
    exact ⟨i, j, rfl, rfl, hc, hq _ G H (.refl sg) (.int _)⟩
theorem pv_modI {i j : Int} (hc : 0 < j) (ha : PV X a ρ (.int i)) (hb : PV X b ρ (.int j)) : PV X (.BinOp a .Mod b pos) ρ (.int (i % j)) :=
  pv_op op_mod ha hb fun x y G H Q sg hx hy hq => by
    cases hx; cases hy
    exact ⟨i, j, rfl, rfl, hc, hq _ G H (.refl sg) (.int _)⟩
theorem pv_divI {i j : Int} (hc : CDiv i j) (ha : PV X a ρ (.int i)) (hb : PV X b ρ (.int j)) : PV X (.BinOp a .FloorDiv b pos) ρ (.int (i / j)) :=
  pv_op op_fdiv ha hb fun x y G H Q sg hx hy hq => by
    cases hx; cases hy
    exact ⟨i, j, rfl, rfl, hc, hq _ G H (.refl sg) (.int _)⟩
theorem pv_powI {i j : Int} (hc : CPow i j) (ha : PV X a ρ (.int i)) (hb : PV X b ρ (.int j)) : PV X (.BinOp a .Pow b pos) ρ (.int (i ^ j.toNat)) :=
  pv_op op_pow ha hb fun x y G H Q sg hx hy hq => by
    cases hx; cases hy
    exact ⟨i, j, rfl, rfl, hc, hq _ G H (.refl sg) (.int _)⟩

/-! ### lists and tuples put together -/
theorem pv_catL {xs ys : List Da} (hz : xs.length + ys.length ≤ 100000) (ha : PV X a ρ (.list xs)) (hb : PV X b ρ (.list ys)) : PV X (.BinOp a .Add b pos) ρ (.list (xs ++ ys)) :=
  pv_op op_cat ha hb fun x y G H Q sg hx hy hq => by
    cases hx with
    | lst h1 h2 =>
      cases hy with
      | lst k1 k2 =>
        refine ⟨_, _, _, _, rfl, rfl, sg _ _ h1, sg _ _ k1, by rw [h2.length, k2.length, sizeLine_eq]; omega, fun p hp => hq _ _ _ (Ext.add sg hp) (.lst upd_same ?_)⟩
        exact DxAll.mono (same_upd (sg.free hp)) _ (h2.append k2)
theorem pv_catT {xs ys : List Da} (hz : xs.length + ys.length ≤ 100000) (ha : PV X a ρ (.tuple false xs)) (hb : PV X b ρ (.tuple false ys)) : PV X (.BinOp a .Add b pos) ρ (.tuple false (xs ++ ys)) :=
  pv_op op_catA ha hb fun x y G H Q sg hx hy hq => by
    cases hx with
    | tup h1 h2 =>
      cases hy with
      | tup k1 k2 =>
        refine ⟨_, _, _, _, rfl, rfl, (h1.mono sg).sqt, (k1.mono sg).sqt, by rw [h2.length, k2.length, sizeLine_eq]; omega, fun e => ?_, fun e e2 => ?_, fun e e2 p hp => ?_⟩
        · have e' := h2.nil_iff.mp e
          subst e'
          exact hq _ G H (.refl sg) (.tup k1 k2)
        · have e' := k2.nil_iff.mp e2
          subst e'
          rw [List.append_nil] at hq
          exact hq _ G H (.refl sg) (.tup h1 h2)
        · exact hq _ _ _ (Ext.add sg hp) (.tup upd_same (DxAll.mono (same_upd (sg.free hp)) _ (h2.append k2)))
theorem pv_repL {xs : List Da} {k : Int} (h1 : -(2 ^ 63) ≤ k) (h2 : k < 2 ^ 63) (hz : xs.length * k.toNat ≤ 100000) (ha : PV X a ρ (.list xs)) (hb : PV X b ρ (.int k)) : PV X (.BinOp a .Mult b pos) ρ (.list (List.replicate k.toNat xs).flatten) :=
  pv_op op_rep ha hb fun x y G H Q sg hx hy hq => by
    cases hx with
    | lst k1 k2 =>
      cases hy
      refine ⟨_, _, _, rfl, rfl, sg _ _ k1, h1, h2, by rw [k2.length, sizeLine_eq]; omega, fun p hp => hq _ _ _ (Ext.add sg hp) (.lst upd_same ?_)⟩
      exact DxAll.mono (same_upd (sg.free hp)) _ (k2.rep _)
theorem pv_repT {xs : List Da} {k : Int} {kd : Bool} (h1 : 2 ≤ k) (h2 : k ≤ 1000) (hn : xs ≠ []) (hz : xs.length ≤ 1000) (ha : PV X a ρ (.tuple kd xs)) (hb : PV X b ρ (.int k)) : PV X (.BinOp a .Mult b pos) ρ (.tuple false (List.replicate k.toNat xs).flatten) :=
  pv_op op_repT ha hb fun x y G H Q sg hx hy hq => by
    cases hx with
    | tup k1 k2 =>
      cases hy
      refine ⟨_, _, _, rfl, rfl, (k1.mono sg).sqt, fun e => hn (k2.nil_iff.mp e), h1, h2, by rw [k2.length]; exact hz, fun p hp => hq _ _ _ (Ext.add sg hp) (.tup upd_same ?_)⟩
      exact DxAll.mono (same_upd (sg.free hp)) _ (k2.rep _)

/-! ### comparisons -/
abbrev depthOk (d : Da) : Prop := (er d).plain = true ∧ (er d).depth ≤ 60
def rEqP : R2 := fun x y H Q => ∃ G d e, Same G H ∧ Dx G x d ∧ Dx G y e ∧ depthOk d ∧ depthOk e ∧ Q (.bl (PyData.eqv (er d) (er e))) H
def rNeP : R2 := fun x y H Q => ∃ G d e, Same G H ∧ Dx G x d ∧ Dx G y e ∧ depthOk d ∧ depthOk e ∧ Q (.bl (!PyData.eqv (er d) (er e))) H
theorem room_of {A : Around} {da db : PyData} (h : da.depth ≤ 60) (hu : A.units + 64 < cLine) : A.units + min da.depth db.depth < cLine := by
  have := Nat.min_le_left da.depth db.depth
  omega
theorem room_of1 {A : Around} {n : Nat} {db : PyData} (h : db.depth ≤ 60) (hu : A.units + 64 < cLine) : A.units + 1 + min n db.depth < cLine := by
  have := Nat.min_le_right n db.depth
  omega
theorem Dx.reads {pins : List (Addr × Obj)} {σ : St} {G H : Hp} {s : Shared} (I : Inv X pins σ H s) (sg : Same G H) {d : Da} {v : V} {u : Value} (p : (er d).plain = true) (h : Dx G v d) (r : RelV v u) : ∃ as, Reads s.heap u (er d) as :=
  Dp.reads I (er d) v u (Dx.dp X.K d p (Dx.mono sg d h)) r
theorem op_eqP (hu : X.A.units + 64 < cLine) : OpR X (compareOp .Eq) rEqP := by
  intro pins s σ H x y v u Q I rx ry h
  obtain ⟨G, d, e, sg, hd, he, sd, se, q⟩ := h
  obtain ⟨as, r1⟩ := Dx.reads I sg sd.1 hd rx
  obtain ⟨bs, r2⟩ := Dx.reads I sg se.1 he ry
  exact SeqAt.eq_plain r1 r2 sd.1 se.1 (room_of sd.2 hu) ⟨.bl _, H, I, rfl, q⟩
theorem op_neP (hu : X.A.units + 64 < cLine) : OpR X (compareOp .NotEq) rNeP := by
  intro pins s σ H x y v u Q I rx ry h
  obtain ⟨G, d, e, sg, hd, he, sd, se, q⟩ := h
  obtain ⟨as, r1⟩ := Dx.reads I sg sd.1 hd rx
  obtain ⟨bs, r2⟩ := Dx.reads I sg se.1 he ry
  exact SeqAt.ne_plain r1 r2 sd.1 se.1 (room_of sd.2 hu) ⟨.bl _, H, I, rfl, q⟩
theorem pv_eq {c : Bool} (hu : X.A.units + 64 < cLine) (ha : PV X a ρ da) (hb : PV X b ρ db) (sa : depthOk da) (sb : depthOk db) (hc : PyData.eqv (er da) (er db) = c) : PV X (.Compare a [.Eq] [b] pos) ρ (.bool c) :=
  pv_cmp (op_eqP hu) ha hb (nomark _) fun x y G H Q sg hx hy hq => ⟨G, da, db, sg, hx, hy, sa, sb, hc ▸ hq _ G H (.refl sg) (.bl _)⟩
theorem pv_ne {c : Bool} (hu : X.A.units + 64 < cLine) (ha : PV X a ρ da) (hb : PV X b ρ db) (sa : depthOk da) (sb : depthOk db) (hc : (!PyData.eqv (er da) (er db)) = c) : PV X (.Compare a [.NotEq] [b] pos) ρ (.bool c) :=
  pv_cmp (op_neP hu) ha hb (nomark _) fun x y G H Q sg hx hy hq => ⟨G, da, db, sg, hx, hy, sa, sb, hc ▸ hq _ G H (.refl sg) (.bl _)⟩
theorem ptv_eq {c : Bool} (hu : X.A.units + 64 < cLine) (ha : PV X a ρ da) (hb : PV X b ρ db) (sa : depthOk da) (sb : depthOk db) (hc : PyData.eqv (er da) (er db) = c) : PTV X (.Compare a [.Eq] [b] pos) ρ c :=
  ptv_cmp (op_eqP hu) ha hb (nomark _) fun x y G H Q sg hx hy hq => ⟨G, da, db, sg, hx, hy, sa, sb, hc ▸ hq _ G H (.refl sg) (.bl _)⟩
theorem ptv_ne {c : Bool} (hu : X.A.units + 64 < cLine) (ha : PV X a ρ da) (hb : PV X b ρ db) (sa : depthOk da) (sb : depthOk db) (hc : (!PyData.eqv (er da) (er db)) = c) : PTV X (.Compare a [.NotEq] [b] pos) ρ c :=
  ptv_cmp (op_neP hu) ha hb (nomark _) fun x y G H Q sg hx hy hq => ⟨G, da, db, sg, hx, hy, sa, sb, hc ▸ hq _ G H (.refl sg) (.bl _)⟩
/-- a > b of alike data -/
def rGtP : R2 := fun x y H Q => ∃ G d e, Same G H ∧ Dx G x d ∧ Dx G y e ∧ depthOk d ∧ (er e).plain = true ∧ PySem.W.alike (er d) (er e) = true ∧ er d ≠ .none ∧ Q (.bl (PySem.W.dataLt (er e) (er d))) H
theorem op_gtP (hu : X.A.units + 64 < cLine) : OpR X (compareOp .Gt) rGtP := by
  intro pins s σ H x y v u Q I rx ry h
  obtain ⟨G, d, e, sg, hd, he, sd, se, al, nn, q⟩ := h
  obtain ⟨as, r1⟩ := Dx.reads I sg sd.1 hd rx
  obtain ⟨bs, r2⟩ := Dx.reads I sg se he ry
  exact PySem.W.gt_data r1 r2 al nn (room_of sd.2 hu) ⟨.bl _, H, I, rfl, q⟩
theorem ptv_gt {c : Bool} (hu : X.A.units + 64 < cLine) (ha : PV X a ρ da) (hb : PV X b ρ db) (sa : depthOk da) (sb : (er db).plain = true) (al : PySem.W.alike (er da) (er db) = true) (nn : er da ≠ .none) (hc : PySem.W.dataLt (er db) (er da) = c) : PTV X (.Compare a [.Gt] [b] pos) ρ c :=
  ptv_cmp (op_gtP hu) ha hb (nomark _) fun x y G H Q sg hx hy hq => ⟨G, da, db, sg, hx, hy, sa, sb, al, nn, hc ▸ hq _ G H (.refl sg) (.bl _)⟩
/-- whole numbers -/
theorem pv_ltI {i j : Int} (ha : PV X a ρ (.int i)) (hb : PV X b ρ (.int j)) : PV X (.Compare a [.Lt] [b] pos) ρ (.bool (decide (i < j))) :=
  pv_cmp op_lt ha hb (nomark _) fun x y G H Q sg hx hy hq => by
    cases hx; cases hy
    exact ⟨i, j, rfl, rfl, hq _ G H (.refl sg) (.bl _)⟩
theorem pv_gtI {i j : Int} (ha : PV X a ρ (.int i)) (hb : PV X b ρ (.int j)) : PV X (.Compare a [.Gt] [b] pos) ρ (.bool (decide (j < i))) :=
  pv_cmp op_gt ha hb (nomark _) fun x y G H Q sg hx hy hq => by
    cases hx; cases hy
    exact ⟨i, j, rfl, rfl, hq _ G H (.refl sg) (.bl _)⟩
theorem ptv_gtI {i j : Int} (ha : PV X a ρ (.int i)) (hb : PV X b ρ (.int j)) : PTV X (.Compare a [.Gt] [b] pos) ρ (decide (j < i)) :=
  ptv_cmp op_gt ha hb (nomark _) fun x y G H Q sg hx hy hq => by
    cases hx; cases hy
    exact ⟨i, j, rfl, rfl, hq _ G H (.refl sg) (.bl _)⟩
theorem ptv_geI {i j : Int} (ha : PV X a ρ (.int i)) (hb : PV X b ρ (.int j)) : PTV X (.Compare a [.GtE] [b] pos) ρ (decide (j ≤ i)) :=
  ptv_cmp op_ge ha hb (nomark _) fun x y G H Q sg hx hy hq => by
    cases hx; cases hy
    exact ⟨i, j, rfl, rfl, hq _ G H (.refl sg) (.bl _)⟩
/-- in, not in, a tuple of data -/
def rInP (neg : Bool) : R2 := fun x y H Q => ∃ G d k es, Same G H ∧ Dx G x d ∧ Dx G y (.tuple k es) ∧ depthOk d ∧ PyData.plainAll (erAll es) = true ∧ Q (.bl (if neg then !(es.any fun y => PyData.eqv (er y) (er d)) else es.any fun y => PyData.eqv (er y) (er d))) H
theorem op_inP (hu : X.A.units + 64 < cLine) : OpR X (compareOp .In) (rInP false) := by
  intro pins s σ H x y v u Q I rx ry h
  obtain ⟨G, d, k, es, sg, hd, he, sd, se, q⟩ := h
  obtain ⟨as, r1⟩ := Dx.reads I sg sd.1 hd rx
  obtain ⟨bs, r2⟩ := Dx.reads I sg (by rw [er, PyData.plain]; exact se) he ry
  rw [er] at r2
  refine SeqAt.in_tuple_data r2 r1 se sd.1 (room_of1 sd.2 hu) ⟨.bl _, H, I, ?_, q⟩
  rw [erAll_eq, List.any_map] <;> rfl
theorem op_notInP (hu : X.A.units + 64 < cLine) : OpR X (compareOp .NotIn) (rInP true) := by
  intro pins s σ H x y v u Q I rx ry h
  obtain ⟨G, d, k, es, sg, hd, he, sd, se, q⟩ := h
  obtain ⟨as, r1⟩ := Dx.reads I sg sd.1 hd rx
  obtain ⟨bs, r2⟩ := Dx.reads I sg (by rw [er, PyData.plain]; exact se) he ry
  rw [er] at r2
  refine SeqAt.notIn_tuple_data r2 r1 se sd.1 (room_of1 sd.2 hu) ⟨.bl _, H, I, ?_, q⟩
  rw [erAll_eq, List.any_map] <;> rfl
theorem pv_in {c k : Bool} {es : List Da} (hu : X.A.units + 64 < cLine) (ha : PV X a ρ da) (hb : PV X b ρ (.tuple k es)) (sa : depthOk da) (sb : PyData.plainAll (erAll es) = true) (hm : behindInMarks .In b = false) (hc : (es.any fun y => PyData.eqv (er y) (er da)) = c) : PV X (.Compare a [.In] [b] pos) ρ (.bool c) :=
  pv_cmp (op_inP hu) ha hb hm fun x y G H Q sg hx hy hq => ⟨G, da, k, es, sg, hx, hy, sa, sb, hc ▸ hq _ G H (.refl sg) (.bl _)⟩
theorem ptv_in {c k : Bool} {es : List Da} (hu : X.A.units + 64 < cLine) (ha : PV X a ρ da) (hb : PV X b ρ (.tuple k es)) (sa : depthOk da) (sb : PyData.plainAll (erAll es) = true) (hm : behindInMarks .In b = false) (hc : (es.any fun y => PyData.eqv (er y) (er da)) = c) : PTV X (.Compare a [.In] [b] pos) ρ c :=
  ptv_cmp (op_inP hu) ha hb hm fun x y G H Q sg hx hy hq => ⟨G, da, k, es, sg, hx, hy, sa, sb, hc ▸ hq _ G H (.refl sg) (.bl _)⟩
theorem ptv_notIn {c k : Bool} {es : List Da} (hu : X.A.units + 64 < cLine) (ha : PV X a ρ da) (hb : PV X b ρ (.tuple k es)) (sa : depthOk da) (sb : PyData.plainAll (erAll es) = true) (hm : behindInMarks .NotIn b = false) (hc : (!(es.any fun y => PyData.eqv (er y) (er da))) = c) : PTV X (.Compare a [.NotIn] [b] pos) ρ c :=
  ptv_cmp (op_notInP hu) ha hb hm fun x y G H Q sg hx hy hq => ⟨G, da, k, es, sg, hx, hy, sa, sb, hc ▸ hq _ G H (.refl sg) (.bl _)⟩
/-- is None, is not None -/
def isNone : Da → Bool
  | .none => true
  | _ => false
theorem dx_non {G : Hp} {v : V} {d : Da} (h : Dx G v d) : decide (v = V.non) = isNone d := by cases h <;> rfl
theorem pv_isN {p2 : Pos} {j : Nat} (ha : PV X a ρ da) : PV X (.Compare a [.Is] [.Constant .none j p2] pos) ρ (.bool (isNone da)) :=
  pv_cmp op_isN ha pv_non (nomark _) fun x y G H Q sg hx hy hq => by
    cases hy
    exact ⟨rfl, dx_non hx ▸ hq _ G H (.refl sg) (.bl _)⟩
theorem ptv_isN {p2 : Pos} {j : Nat} (ha : PV X a ρ da) : PTV X (.Compare a [.Is] [.Constant .none j p2] pos) ρ (isNone da) :=
  ptv_cmp op_isN ha pv_non (nomark _) fun x y G H Q sg hx hy hq => by
    cases hy
    exact ⟨rfl, dx_non hx ▸ hq _ G H (.refl sg) (.bl _)⟩
theorem pv_notN {p2 : Pos} {j : Nat} (ha : PV X a ρ da) : PV X (.Compare a [.IsNot] [.Constant .none j p2] pos) ρ (.bool (!isNone da)) :=
  pv_cmp op_notN ha pv_non (nomark _) fun x y G H Q sg hx hy hq => by
    cases hy
    exact ⟨rfl, dx_non hx ▸ hq _ G H (.refl sg) (.bl _)⟩
theorem ptv_notN {p2 : Pos} {j : Nat} (ha : PV X a ρ da) : PTV X (.Compare a [.IsNot] [.Constant .none j p2] pos) ρ (!isNone da) :=
  ptv_cmp op_notN ha pv_non (nomark _) fun x y G H Q sg hx hy hq => by
    cases hy
    exact ⟨rfl, dx_non hx ▸ hq _ G H (.refl sg) (.bl _)⟩

/-! ### tests -/
theorem ptv_val {c : Bool} (h : PV X e ρ (.bool c)) (he : ∀ whole, isTrue e X.env whole = (do let v ← whole; standAt e.pos; holding [v] (truthy v)) := by intro _; rfl) : PTV X e ρ c :=
  PT.ptv (pt_val (pe_w e) he) fun σ G H Q sg hl h1 hq => h σ G H _ sg hl h1 fun v G' H' x hd => by
    cases hd
    exact ⟨c, rfl, hq G' H' x⟩
theorem ptv_not {c : Bool} (h : PTV X e ρ c) : PTV X (.UnaryOp .Not e pos) ρ (!c) :=
  PT.ptv (pt_not (pt_w e)) fun σ G H Q sg hl h1 hq => h σ G H _ sg hl h1 fun G' H' x => hq G' H' x
/-- whatever stands around: for and, or -/
def PWV (X : Cx) (e : Expr) (ρ : Rho) (b : Bool) : Prop := ∃ t, PW X e t ∧ ∀ σ G H Q, Same G H → ρ.length ≤ σ.length → EOk G σ ρ → (∀ G' H', Ext G H G' H' → Q b H') → t σ H Q
theorem PWV.ptv {c : Bool} (h : PWV X e ρ c) : PTV X e ρ c := by
  obtain ⟨t, h1, h2⟩ := h
  exact PT.ptv h1.pt h2
theorem pwv_and1 {c : Bool} (h : PTV X e ρ c) : PWV X (.BoolOp .And [e] pos) ρ c := ⟨_, pw_and1 (pt_w e), fun σ G H Q sg hl h1 hq => h σ G H Q sg hl h1 hq⟩
theorem pwv_or1 {c : Bool} (h : PTV X e ρ c) : PWV X (.BoolOp .Or [e] pos) ρ c := ⟨_, pw_or1 (pt_w e), fun σ G H Q sg hl h1 hq => h σ G H Q sg hl h1 hq⟩
theorem pwv_andF {rest : List Expr} (h : PTV X e ρ false) (hn : rest ≠ []) (hp : ∃ t, PW X (.BoolOp .And rest pos) t) : PWV X (.BoolOp .And (e :: rest) pos) ρ false := by
  obtain ⟨t, hp⟩ := hp
  cases rest with
  | nil => exact absurd rfl hn
  | cons f r => exact ⟨_, pw_and (pt_w e) hp, fun σ G H Q sg hl h1 hq => h σ G H _ sg hl h1 fun G' H' x => by rw [if_neg Bool.false_ne_true]; exact hq G' H' x⟩
theorem pwv_and {f : Expr} {rest : List Expr} {c c2 : Bool} (h : PTV X e ρ c) (h2 : PWV X (.BoolOp .And (f :: rest) pos) ρ c2) : PWV X (.BoolOp .And (e :: f :: rest) pos) ρ (c && c2) := by
  obtain ⟨t, hp, hq2⟩ := h2
  refine ⟨_, pw_and (pt_w e) hp, fun σ G H Q sg hl h1 hq => h σ G H _ sg hl h1 fun G' H' x => ?_⟩
  cases c with
  | true =>
    rw [if_pos rfl]
    exact hq2 σ G' H' Q x.gh hl (h1.mono (x.gg sg)) fun G2 H2 x2 => by rw [Bool.true_and] at hq; exact hq G2 H2 (x.trans x2)
  | false =>
    rw [if_neg Bool.false_ne_true]
    exact hq G' H' x
theorem pwv_or {f : Expr} {rest : List Expr} {c c2 : Bool} (h : PTV X e ρ c) (h2 : PWV X (.BoolOp .Or (f :: rest) pos) ρ c2) : PWV X (.BoolOp .Or (e :: f :: rest) pos) ρ (c || c2) := by
  obtain ⟨t, hp, hq2⟩ := h2
  refine ⟨_, pw_or (pt_w e) hp, fun σ G H Q sg hl h1 hq => h σ G H _ sg hl h1 fun G' H' x => ?_⟩
  cases c with
  | false =>
    rw [if_neg Bool.false_ne_true]
    exact hq2 σ G' H' Q x.gh hl (h1.mono (x.gg sg)) fun G2 H2 x2 => by rw [Bool.false_or] at hq; exact hq G2 H2 (x.trans x2)
  | true =>
    rw [if_pos rfl]
    exact hq G' H' x
/-- the second one is only asked where the first one is true -/
theorem pwv_andG {f : Expr} {rest : List Expr} {c c2 : Bool} (h : PTV X e ρ c) (hp : c = false → ∃ t, PW X (.BoolOp .And (f :: rest) pos) t) (h2 : c = true → PWV X (.BoolOp .And (f :: rest) pos) ρ c2) : PWV X (.BoolOp .And (e :: f :: rest) pos) ρ (c && c2) := by
  cases c with
  | true => exact pwv_and h (h2 rfl)
  | false => exact pwv_andF h (by simp) (hp rfl)
theorem pv_one {op} (h : PV X e ρ d) : PV X (.BoolOp op [e] pos) ρ d := PE.pv (pe_one (pe_w e)) fun σ G H Q sg hl h1 hq => h σ G H Q sg hl h1 hq
theorem pv_and {f : Expr} {rest : List Expr} {c c2 : Bool} (h : PV X e ρ (.bool c)) (h2 : PV X (.BoolOp .And (f :: rest) pos) ρ (.bool c2)) : PV X (.BoolOp .And (e :: f :: rest) pos) ρ (.bool (c && c2)) :=
  PE.pv (pe_and (pe_w e) (pe_w _)) fun σ G H Q sg hl h1 hq => h σ G H _ sg hl h1 fun v G' H' x hd => by
    cases hd
    refine ⟨c, rfl, ?_⟩
    cases c with
    | true =>
      rw [if_pos rfl]
      exact h2 σ G' H' Q x.gh hl (h1.mono (x.gg sg)) fun v2 G2 H2 x2 hd2 => by rw [Bool.true_and] at hq; exact hq v2 G2 H2 (x.trans x2) hd2
    | false =>
      rw [if_neg Bool.false_ne_true]
      exact hq _ G' H' x (.bl _)
theorem pv_ifExp {c : Expr} {k : Bool} {da db : Da} (h : PTV X c ρ k) (ha : k = true → PV X a ρ da) (hb : k = false → PV X b ρ db) : PV X (.IfExp c a b pos) ρ (if k then da else db) :=
  PE.pv (pe_ifExp (pt_w c) (pe_w a) (pe_w b)) fun σ G H Q sg hl h1 hq => h σ G H _ sg hl h1 fun G' H' x => by
    cases k with
    | true =>
      rw [if_pos rfl]
      exact ha rfl σ G' H' Q x.gh hl (h1.mono (x.gg sg)) fun v2 G2 H2 x2 hd2 => hq v2 G2 H2 (x.trans x2) hd2
    | false =>
      rw [if_neg Bool.false_ne_true]
      exact hb rfl σ G' H' Q x.gh hl (h1.mono (x.gg sg)) fun v2 G2 H2 x2 hd2 => hq v2 G2 H2 (x.trans x2) hd2

/-! ### items, slices -/
theorem pv_ixL {ds : List Da} {i : Int} {j : Nat} (ha : PV X a ρ (.list ds)) (hb : PV X b ρ (.int i)) (hi : i = (j : Int)) (hj : ds[j]? = some d) (hs : PlainIx b := by exact fun _ _ => rfl) : PV X (.Subscript a b pos) ρ d :=
  PE.pv (pe_ix ix_list (pe_w a) (pe_w b) hs) fun σ G H Q sg hl h1 hq => ha σ G H _ sg hl h1 fun v G1 H1 x1 d1 => hb σ G1 H1 _ x1.gh hl (h1.mono (x1.gg sg)) fun u G2 H2 x2 d2 => by
    cases d2
    cases Dx.mono (x2.gg x1.gh) _ d1 with
    | lst k1 k2 =>
      subst hi
      obtain ⟨w, hw, hd⟩ := k2.get hj
      exact ⟨_, _, _, w, rfl, rfl, SqL.of (x2.gh _ _ k1), atI_nat hw, hq w G2 H2 (x1.trans x2) hd⟩
theorem pv_ixT {ds : List Da} {i : Int} {j : Nat} {kd : Bool} (ha : PV X a ρ (.tuple kd ds)) (hb : PV X b ρ (.int i)) (hi : i = (j : Int)) (hj : ds[j]? = some d) (hs : PlainIx b := by exact fun _ _ => rfl) : PV X (.Subscript a b pos) ρ d :=
  PE.pv (pe_ix ix_tup (pe_w a) (pe_w b) hs) fun σ G H Q sg hl h1 hq => ha σ G H _ sg hl h1 fun v G1 H1 x1 d1 => hb σ G1 H1 _ x1.gh hl (h1.mono (x1.gg sg)) fun u G2 H2 x2 d2 => by
    cases d2
    cases Dx.mono (x2.gg x1.gh) _ d1 with
    | tup k1 k2 =>
      subst hi
      obtain ⟨w, hw, hd⟩ := k2.get hj
      exact ⟨_, _, _, w, rfl, rfl, (k1.mono x2.gh).sqt, atI_nat hw, hq w G2 H2 (x1.trans x2) hd⟩
/-- t[1:] of a tuple -/
theorem pv_slT1 {ds : List Da} {p2 p3 : Pos} {k : Nat} (ha : PV X a ρ (.tuple false ds)) : PV X (.Subscript a (.Slice (some (.Constant (.int 1) k p3)) none none p2) pos) ρ (.tuple false (ds.drop 1)) :=
  PE.pv (pe_slice sl_tupA (pe_w a) (po_some pe_int) po_none) fun σ G H Q sg hl h1 hq => ha σ G H _ sg hl h1 fun v G1 H1 x1 d1 => by
    refine ⟨1, rfl, ?_⟩
    cases d1 with
    | tup k1 k2 =>
      refine ⟨_, _, rfl, (k1.mono x1.gh).sqt, fun hw => ?_, fun hw p hp => ?_⟩
      · have hl := k2.length
        have e : ∀ n : Nat, HT.sIx n 0 (some 1) = min 1 n := fun n => HT.sIx_nat n 0 1
        rw [e] at hw
        have hn : ds = [] := List.eq_nil_of_length_eq_zero (by omega)
        subst hn
        exact hq _ G1 H1 x1 (.tup k1 k2)
      · refine hq _ _ _ (x1.trans (Ext.add x1.gh hp)) (.tup upd_same (DxAll.mono (same_upd (x1.gh.free hp)) _ ?_))
        unfold cutV
        have hl := k2.length
        have e : ∀ n : Nat, HT.sIx n 0 (some 1) = min 1 n := fun n => HT.sIx_nat n 0 1
        rw [e, HT.sIx_none]
        cases k2 with
        | nil => exact .nil
        | cons q r =>
          rename_i v vs d ds
          rw [show min 1 (v :: vs).length = 1 by rw [List.length_cons]; omega]
          show DxAll G1 (List.take ((v :: vs).length - 1) vs) ds
          rw [List.length_cons, Nat.add_sub_cancel, List.take_length]
          exact r
end
end K42
/-! ## KLay3 -/
namespace K42
open PySem PySem.Spec L2
open PyProof.Rows hiding St

/-! ### what is walked -/
/-- no list or tuple is longer than the line -/
def Hz (H : Hp) : Prop := ∀ a xs, (H a = some (.lst xs) ∨ ∃ k, TupAt H k a xs) → xs.length ≤ sizeLine
section
variable {X : Cx} {e e2 : Expr} {es : List Expr} {ρ : Rho} {d : Da} {ds : List Da} {pos : Pos}
theorem Inv.hz {pins : List (Addr × Obj)} {σ : St} {H : Hp} {s : Shared} (I : Inv X pins σ H s) : Hz H := fun a xs h => by
  rcases h with h | ⟨k, h⟩
  · exact (I.hok a _ h).1
  · cases k with
    | false => exact (I.hok a _ h).1
    | true =>
      obtain ⟨o, h, _⟩ := h
      exact (I.hok a _ h).2.1
def tZ (X : Cx) (e : Expr) : TE := fun σ H Q => tW X e σ H fun x H1 => Hz H1 → Q x H1
theorem pe_z (e : Expr) : PE X e (tZ X e) := ⟨fun pins s σ H Q I h => thn (h pins s I) fun u s1 ⟨v, H1, I1, r, q⟩ => ⟨v, H1, I1, r, q (K42.Inv.hz I1)⟩⟩
def tZA (X : Cx) (es : List Expr) : TA := fun σ H Q => tWA X es σ H fun xs H1 => Hz H1 → Q xs H1
theorem pa_z (es : List Expr) : PA X es (tZA X es) := ⟨fun pos pins s σ H Q I h => thn (h pos pins s I) fun u s1 ⟨v, H1, I1, r, q⟩ => ⟨v, H1, I1, r, q (K42.Inv.hz I1)⟩⟩

theorem walkD_list {K : PySem.W.Frag} {G : Hp} {a : Addr} {xs : List V} (hz : xs.length ≤ sizeLine) (h : G a = some (.lst xs)) (hd : DxAll G xs ds) : WalkD (Itl K a) G ds where
  small := by rw [← hd.length]; exact hz
  go := fun G1 H s1 s2 i hi => by
    rw [← hd.length] at hi
    exact ⟨xs, xs[i], SqL.of (s2 _ _ (s1 _ _ h)), List.getElem?_eq_getElem hi⟩
  stop := fun G1 H s1 s2 => ⟨xs, SqL.of (s2 _ _ (s1 _ _ h)), Nat.le_of_eq hd.length⟩
  yld := fun G1 H s1 s2 i d x H' he y => by
    obtain ⟨rfl, y⟩ := y
    obtain ⟨v, hv, hx⟩ := hd.get he
    have e := y xs (SqL.of (s2 _ _ (s1 _ _ h)))
    rw [hv] at e
    cases e
    exact ⟨G1, .refl s2, Dx.mono s1 _ hx⟩
theorem walkD_tup {K : PySem.W.Frag} {G : Hp} {a : Addr} {xs : List V} {k : Bool} (hz : xs.length ≤ sizeLine) (h : TupAt G k a xs) (hd : DxAll G xs ds) : WalkD (Itt K a) G ds where
  small := by rw [← hd.length]; exact hz
  go := fun G1 H s1 s2 i hi => by
    rw [← hd.length] at hi
    exact ⟨xs, xs[i], ((h.mono s1).mono s2).sqt, List.getElem?_eq_getElem hi⟩
  stop := fun G1 H s1 s2 => ⟨xs, ((h.mono s1).mono s2).sqt, Nat.le_of_eq hd.length⟩
  yld := fun G1 H s1 s2 i d x H' he y => by
    obtain ⟨rfl, y⟩ := y
    obtain ⟨v, hv, hx⟩ := hd.get he
    have e := y xs (((h.mono s1).mono s2).sqt)
    rw [hv] at e
    cases e
    exact ⟨G1, .refl s2, Dx.mono s1 _ hx⟩
theorem piv_list {tg : Expr} (h : PV X e ρ (.list ds)) : PIV X tg e ρ ds :=
  PI.piv (pi_list (pe_z e)) fun σ G H R sg hl he hq => h σ G H _ sg hl he fun v G1 H1 x1 d1 z => by
    cases d1 with
    | lst k1 k2 => exact ⟨_, rfl, ⟨_, SqL.of (x1.gh _ _ k1)⟩, hq _ G1 H1 x1 (walkD_list (z _ _ (.inl (x1.gh _ _ k1))) k1 k2)⟩
theorem piv_tup {tg : Expr} {k : Bool} (h : PV X e ρ (.tuple k ds)) : PIV X tg e ρ ds :=
  PI.piv (pi_tup (pe_z e)) fun σ G H R sg hl he hq => h σ G H _ sg hl he fun v G1 H1 x1 d1 z => by
    cases d1 with
    | tup k1 k2 => exact ⟨_, rfl, ⟨_, (k1.mono x1.gh).sqt⟩, hq _ G1 H1 x1 (walkD_tup (z _ _ (.inr ⟨_, k1.mono x1.gh⟩)) k1 k2)⟩
/-- the whole numbers below n -/
def upto (n : Nat) : List Da := (List.range n).map fun i : Nat => .int (i : Int)
theorem upto_length (n : Nat) : (upto n).length = n := by unfold upto; rw [List.length_map, List.length_range]
theorem upto_get {n i : Nat} {d : Da} (h : (upto n)[i]? = some d) : d = .int (i : Int) ∧ i < n := by
  unfold upto at h
  rw [List.getElem?_map] at h
  by_cases hi : i < n
  · rw [List.getElem?_range hi] at h
    exact ⟨(Option.some.inj h).symm, hi⟩
  · rw [List.getElem?_eq_none (by rw [List.length_range]; omega)] at h
    cases h
theorem walkD_range {G : Hp} {n : Nat} (hz : n ≤ 100000) : WalkD (Itr 0 n) G (upto n) where
  small := by rw [upto_length, sizeLine_eq]; omega
  go := fun G1 H s1 s2 i hi => by rw [upto_length] at hi; exact hi
  stop := fun G1 H s1 s2 => Nat.le_of_eq (upto_length n).symm
  yld := fun G1 H s1 s2 i d x H' he y => by
    obtain ⟨rfl, rfl⟩ := y
    obtain ⟨rfl, _⟩ := upto_get he
    refine ⟨G1, .refl s2, ?_⟩
    rw [Int.zero_add]
    exact .int _
theorem piv_range {tg : Expr} {n : Nat} {p : Pos} (h : PV X e ρ (.int (n : Int))) (hz : n ≤ 100000) (hg : Gl X "range") (hm : X.mg "range" = none) (hs : starEach [e] X.env = [(false, eval e X.env)] := by rfl) : PIV X tg (.Call (.Name "range" p) [e] [] pos) ρ (upto n) :=
  PI.piv (pi_range1 hg hm (pa_w [e]) hs) fun σ G H R sg hl he hq => (pav_cons h pav_nil (by first | rfl | (rw [hs]; rfl))) σ G H _ sg hl he fun vs G1 H1 x1 d1 => by
    cases d1 with
    | cons k1 k2 =>
      cases k2
      cases k1
      refine ⟨_, rfl, by omega, by omega, hq _ G1 H1 x1 ?_⟩
      exact walkD_range hz

/-- what stands in a pair -/
def pairsD (xs ys : List Da) : List Da := List.zipWith (fun x y => .tuple false [x, y]) xs ys
theorem pairsD_get {xs ys : List Da} {i : Nat} {d : Da} (h : (pairsD xs ys)[i]? = some d) : ∃ x y, xs[i]? = some x ∧ ys[i]? = some y ∧ d = .tuple false [x, y] := by
  unfold pairsD at h
  rw [List.getElem?_zipWith] at h
  cases hx : xs[i]? with
  | none => rw [hx] at h; cases h
  | some x =>
    cases hy : ys[i]? with
    | none => rw [hx, hy] at h; cases h
    | some y =>
      rw [hx, hy] at h
      exact ⟨x, y, rfl, rfl, (Option.some.inj h).symm⟩
theorem pairsD_length (xs ys : List Da) : (pairsD xs ys).length = min xs.length ys.length := by unfold pairsD; rw [List.length_zipWith]
theorem dx_pair {G : Hp} {T : Addr} {x y : V} {d e : Da} (n : G T = none) (h1 : Dx G x d) (h2 : Dx G y e) : Dx (upd G T (.tup [x, y])) (.ref T) (.tuple false [d, e]) :=
  .tup upd_same (.cons (Dx.mono (same_upd n) _ h1) (.cons (Dx.mono (same_upd n) _ h2) .nil))
/-- a walk that hands out new pairs -/
theorem walkD_pairs {J : It} {G : Hp} {xs ys : List Da} {us vs : List V} (hx : DxAll G us xs) (hy : DxAll G vs ys) (hz : us.length ≤ sizeLine)
    (go : ∀ H, Same G H → ∀ i, i < us.length → i < vs.length → J.go i H) (stop : ∀ H, Same G H → J.stop (min us.length vs.length) H)
    (yld : ∀ H, Same G H → ∀ i v H', i < us.length → i < vs.length → J.yld i H v H' → ∃ T x y, v = .ref T ∧ H T = none ∧ H' = upd H T (.tup [x, y]) ∧ us[i]? = some x ∧ vs[i]? = some y) : WalkD J G (pairsD xs ys) where
  small := by rw [pairsD_length, ← hx.length]; exact Nat.le_trans (Nat.min_le_left _ _) hz
  go := fun G1 H s1 s2 i hi => by
    rw [pairsD_length, ← hx.length, ← hy.length] at hi
    exact go H (s1.trans s2) i (by omega) (by omega)
  stop := fun G1 H s1 s2 => by
    rw [pairsD_length, ← hx.length, ← hy.length]
    exact stop H (s1.trans s2)
  yld := fun G1 H s1 s2 i d v H' he y => by
    obtain ⟨dx, dy, h1, h2, rfl⟩ := pairsD_get he
    obtain ⟨x, hxx, hdx⟩ := hx.get h1
    obtain ⟨y', hyy, hdy⟩ := hy.get h2
    obtain ⟨T, x2, y2, rfl, hT, rfl, e1, e2⟩ := yld H (s1.trans s2) i v H' (List.getElem?_eq_some_iff.mp hxx).1 (List.getElem?_eq_some_iff.mp hyy).1 y
    rw [hxx] at e1
    rw [hyy] at e2
    cases e1
    cases e2
    exact ⟨_, Ext.add s2 hT, dx_pair (s2.free hT) (Dx.mono s1 _ hdx) (Dx.mono s1 _ hdy)⟩
theorem upto_dx (G : Hp) (n : Nat) : DxAll G ((List.range n).map fun i : Nat => V.int (i : Int)) (upto n) := by
  unfold upto
  have h := DxAll.ints G ((List.range n).map fun i : Nat => (i : Int))
  rw [List.map_map, List.map_map] at h
  exact h
theorem uptoV_get {n i : Nat} (h : i < n) : ((List.range n).map fun i : Nat => V.int (i : Int))[i]? = some (.int (i : Int)) := by
  rw [List.getElem?_map, List.getElem?_range h] <;> rfl
theorem walkD_enum {K : PySem.W.Frag} {G : Hp} {a : Addr} {xs : List V} (hz : xs.length ≤ sizeLine) (h : G a = some (.lst xs)) (hd : DxAll G xs ds) : WalkD (Ite K a) G (pairsD (upto ds.length) ds) := by
  refine walkD_pairs (upto_dx G ds.length) hd (by rw [List.length_map, List.length_range, ← hd.length]; exact hz) (fun H sh i h1 h2 => ?_) (fun H sh => ?_) fun H sh i v H' h1 h2 y => ?_
  · exact ⟨xs, xs[i], SqL.of (sh _ _ h), List.getElem?_eq_getElem h2⟩
  · refine ⟨xs, SqL.of (sh _ _ h), ?_⟩
    rw [List.length_map, List.length_range, ← hd.length]
    omega
  · obtain ⟨T, x, y1, y2, y3, y4⟩ := y
    rw [List.length_map, List.length_range] at h1
    exact ⟨T, .int (i : Nat), x, y1, y2, y3, uptoV_get h1, y4 xs (SqL.of (sh _ _ h))⟩
theorem piv_enum {elts : List Expr} {kk : Nat} {p tpos : Pos} (h : PV X e ρ (.list ds)) (hg : Gl X "enumerate") (hm : X.mg "enumerate" = none) (hs : starEach [e] X.env = [(false, eval e X.env)] := by rfl) :
    PIV X (.Tuple elts kk tpos) (.Call (.Name "enumerate" p) [e] [] pos) ρ (pairsD (upto ds.length) ds) :=
  PI.piv (pi_enum hg hm (pa_z [e]) hs) fun σ G H R sg hl he hq => (pav_cons h pav_nil (by first | rfl | (rw [hs]; rfl))) σ G H _ sg hl he fun vs G1 H1 x1 d1 z => by
    cases d1 with
    | cons k1 k2 =>
      cases k2
      cases k1 with
      | lst m1 m2 => exact ⟨_, _, rfl, SqL.of (x1.gh _ _ m1), hq _ G1 H1 x1 (walkD_enum (z _ _ (.inl (x1.gh _ _ m1))) m1 m2)⟩
theorem walkD_zipL {K : PySem.W.Frag} {G : Hp} {a b : Addr} {xs ys : List V} {es : List Da} (hz : xs.length ≤ sizeLine) (h : G a = some (.lst xs)) (h' : G b = some (.lst ys)) (hd : DxAll G xs ds) (hd' : DxAll G ys es) : WalkD (Itz K a b) G (pairsD ds es) := by
  refine walkD_pairs hd hd' hz (fun H sh i h1 h2 => ?_) (fun H sh => ?_) fun H sh i v H' h1 h2 y => ?_
  · exact ⟨xs, ys, xs[i], ys[i], SqL.of (sh _ _ h), SqL.of (sh _ _ h'), List.getElem?_eq_getElem h1, List.getElem?_eq_getElem h2⟩
  · exact ⟨xs, ys, SqL.of (sh _ _ h), SqL.of (sh _ _ h'), by omega⟩
  · obtain ⟨T, x, y0, y1, y2, y3, y4, y5⟩ := y
    exact ⟨T, x, y0, y1, y2, y3, y4 xs (SqL.of (sh _ _ h)), y5 ys (SqL.of (sh _ _ h'))⟩
theorem walkD_zipT {K : PySem.W.Frag} {G : Hp} {a b : Addr} {xs ys : List V} {es : List Da} {k k' : Bool} (hz : xs.length ≤ sizeLine) (h : TupAt G k a xs) (h' : TupAt G k' b ys) (hd : DxAll G xs ds) (hd' : DxAll G ys es) : WalkD (RZ.ItzT K a b) G (pairsD ds es) := by
  refine walkD_pairs hd hd' hz (fun H sh i h1 h2 => ?_) (fun H sh => ?_) fun H sh i v H' h1 h2 y => ?_
  · exact ⟨xs, ys, xs[i], ys[i], (h.mono sh).sqt, (h'.mono sh).sqt, List.getElem?_eq_getElem h1, List.getElem?_eq_getElem h2⟩
  · exact ⟨xs, ys, (h.mono sh).sqt, (h'.mono sh).sqt, by omega⟩
  · obtain ⟨T, x, y0, y1, y2, y3, y4, y5⟩ := y
    exact ⟨T, x, y0, y1, y2, y3, y4 xs ((h.mono sh).sqt), y5 ys ((h'.mono sh).sqt)⟩
theorem piv_zipL {es' : List Da} {elts : List Expr} {kk : Nat} {p tpos : Pos} (h : PV X e ρ (.list ds)) (h' : PV X e2 ρ (.list es')) (hg : Gl X "zip") (hm : X.mg "zip" = none)
    (hs : starEach [e, e2] X.env = (false, eval e X.env) :: starEach [e2] X.env := by rfl) (hs2 : starEach [e2] X.env = (false, eval e2 X.env) :: starEach [] X.env := by rfl) (hpl : (backTo pos (starEach [e2] X.env)).any (·.1) = false := by rfl) :
    PIV X (.Tuple elts kk tpos) (.Call (.Name "zip" p) [e, e2] [] pos) ρ (pairsD ds es') :=
  PI.piv (RZ.pi_zipA hg hm (pa_z [e, e2]) hs hpl) fun σ G H R sg hl he hq => (pav_cons h (pav_cons h' pav_nil hs2) hs) σ G H _ sg hl he fun vs G1 H1 x1 d1 z => by
    cases d1 with
    | cons k1 k2 =>
      cases k2 with
      | cons k2 k3 =>
        cases k3
        cases k1 with
        | lst m1 m2 =>
          cases k2 with
          | lst n1 n2 => exact ⟨_, _, _, _, rfl, .inl ⟨SqL.of (x1.gh _ _ m1), SqL.of (x1.gh _ _ n1), hq _ G1 H1 x1 (walkD_zipL (z _ _ (.inl (x1.gh _ _ m1))) m1 n1 m2 n2)⟩⟩
theorem piv_zipT {es' : List Da} {elts : List Expr} {kk : Nat} {p tpos : Pos} {k k' : Bool} (h : PV X e ρ (.tuple k ds)) (h' : PV X e2 ρ (.tuple k' es')) (hg : Gl X "zip") (hm : X.mg "zip" = none)
    (hs : starEach [e, e2] X.env = (false, eval e X.env) :: starEach [e2] X.env := by rfl) (hs2 : starEach [e2] X.env = (false, eval e2 X.env) :: starEach [] X.env := by rfl) (hpl : (backTo pos (starEach [e2] X.env)).any (·.1) = false := by rfl) :
    PIV X (.Tuple elts kk tpos) (.Call (.Name "zip" p) [e, e2] [] pos) ρ (pairsD ds es') :=
  PI.piv (RZ.pi_zipA hg hm (pa_z [e, e2]) hs hpl) fun σ G H R sg hl he hq => (pav_cons h (pav_cons h' pav_nil hs2) hs) σ G H _ sg hl he fun vs G1 H1 x1 d1 z => by
    cases d1 with
    | cons k1 k2 =>
      cases k2 with
      | cons k2 k3 =>
        cases k3
        cases k1 with
        | tup m1 m2 =>
          cases k2 with
          | tup n1 n2 => exact ⟨_, _, _, _, rfl, .inr ⟨(m1.mono x1.gh).sqt, (n1.mono x1.gh).sqt, hq _ G1 H1 x1 (walkD_zipT (z _ _ (.inr ⟨_, m1.mono x1.gh⟩)) m1 n1 m2 n2)⟩⟩

/-! ### comprehensions -/
/-- a target's store g takes the datum d -/
def TgOk (g : TG) (ρ : Rho) (d : Da) (ρ' : Rho) (own : List Nat) : Prop :=
  ∀ σ G H v Q, Same G H → ρ.length ≤ σ.length → EOk G σ ρ → Dx G v d → (∀ σ', σ'.length = σ.length → EOk G σ' ρ' → wipe σ' own = wipe σ own → Q σ' H) → g v σ H Q
/-- a turn's tests, its element -/
def PTsV (X : Cx) (ifs : List Expr) (ρ : Rho) (b : Bool) : Prop := ifs = [] ∧ b = true ∨ ∃ c, ifs = [c] ∧ PTV X c ρ b
abbrev Blk (X : Cx) (scope : Scope) (X' : Cx) : Prop := ∃ s H C cl fp, X' = X.blk s H scope (compEnvC scope cl C X.env) fp
def tWTs (X : Cx) (ifs : List Expr) : TT := fun σ H Q => ∀ pins s, Inv X pins σ H s →
  wpAny (model X.prog X.w) X.A (forIn ifs true fun c r => if r = true then do let ok ← isTrue c X.env (eval c X.env); pure (ForInStep.yield ok) else pure (ForInStep.yield r)) (TP X pins σ Q) X.xe s
theorem ptsV_run {ifs : List Expr} {b : Bool} (h : PTsV X ifs ρ b) : ∀ σ G H Q, Same G H → ρ.length ≤ σ.length → EOk G σ ρ → (∀ G' H', Ext G H G' H' → Q b H') → tWTs X ifs σ H Q := by
  rcases h with ⟨rfl, rfl⟩ | ⟨c, rfl, h⟩
  · intro σ G H Q sg hl he hq pins s I
    exact (pts_nil (X := X)).run pins s σ H Q I (hq G H (.refl sg))
  · intro σ G H Q sg hl he hq pins s I
    exact (pts_one (pt_w c)).run pins s σ H Q I (h σ G H Q sg hl he hq)
theorem set_wipe {σ : St} {i : Nat} {w : Option V} : ∀ vs : List Nat, i ∉ vs → wipe (σ.set i w) vs = (wipe σ vs).set i w
  | [], _ => rfl
  | u :: us, hn => by
    unfold wipe
    rw [set_wipe us fun z => hn (List.mem_cons_of_mem _ z)]
    exact List.set_comm _ _ (fun z => hn (by rw [z]; exact List.mem_cons_self))
theorem wipe_set {σ : St} {i : Nat} {w : Option V} : ∀ {own : List Nat}, i ∈ own → wipe (σ.set i w) own = wipe σ own
  | v :: vs, h => by
    unfold wipe
    rcases List.mem_cons.mp h with rfl | h
    · by_cases hm : i ∈ vs
      · rw [wipe_set hm]
      · rw [set_wipe vs hm, List.set_set]
    · rw [wipe_set h]
theorem wipe_wipe {σ : St} : ∀ vs : List Nat, wipe (wipe σ vs) vs = wipe σ vs
  | [] => rfl
  | v :: vs => by
    show (wipe ((wipe σ vs).set v none) vs).set v none = (wipe σ vs).set v none
    by_cases hm : v ∈ vs
    · rw [wipe_set hm, wipe_wipe vs]
    · rw [set_wipe vs hm, wipe_wipe vs, List.set_set]
theorem tg_name {i : Nat} {own : List Nat} (hi : i ∈ own) : TgOk (gName i) ρ d (ρ.set i (some d)) own :=
  fun σ G H v Q sg hz he hd hq => hq _ (List.length_set ..) (he.set hz hd) (wipe_set hi)
/-- a, b = a pair -/
abbrev gPair (K : PySem.W.Frag) (i j : Nat) : TG := gTup K 2 (gCons (gName i) (gCons (gName j) gNil))
theorem tg_pair {K : PySem.W.Frag} {i j : Nat} {own : List Nat} {da db : Da} (hi : i ∈ own) (hj : j ∈ own) : TgOk (gPair K i j) ρ (.tuple false [da, db]) ((ρ.set i (some da)).set j (some db)) own :=
  fun σ G H v Q sg hz he hd hq => by
    cases hd with
    | tup h1 h2 =>
      cases h2 with
      | cons a1 a2 =>
        cases a2 with
        | cons b1 b2 =>
          cases b2
          refine ⟨_, _, rfl, (h1.mono sg).sqt, rfl, _, _, rfl, _, _, rfl, rfl, ?_⟩
          refine hq _ (by rw [List.length_set, List.length_set]) ((he.set hz a1).set (by rw [List.length_set, List.length_set]; exact hz) b1) ?_
          rw [wipe_set hj, wipe_set hi]
theorem pg_pair {i j : Nat} {x y : Str} {p1 p2 : Pos} {k : Nat} (hc : X.calm = true) (hN : X.N.Nodup) (hx : X.N[i]? = some x) (hy : X.N[j]? = some y) (hl : Loc X.env.scope x) (hl' : Loc X.env.scope y)
    (hf : X.fn x = true ∨ X.env.scope.names.lookup x = some .local := by first | exact .inl rfl | exact .inr rfl | assumption) (hf' : X.fn y = true ∨ X.env.scope.names.lookup y = some .local := by first | exact .inl rfl | exact .inr rfl | assumption)
    (h1 : (assignEach [.Name x p1, .Name y p2] X.env).map (·.2) = assign (.Name x p1) X.env :: (assignEach [.Name y p2] X.env).map (·.2) := by rfl) (h2 : (assignEach [.Name y p2] X.env).map (·.2) = assign (.Name y p2) X.env :: (assignEach [] X.env).map (·.2) := by rfl)
    (h3 : (assignEach [.Name x p1, .Name y p2] X.env).length = 2 := by rfl) (h4 : (assignEach [.Name x p1, .Name y p2] X.env).findIdx? (·.1) = none := by rfl) :
    PG X (.Tuple [.Name x p1, .Name y p2] k pos) (gPair X.K i j) :=
  pg_tup hc (pgs_cons (pg_name hN hx hl hf) (pgs_cons (pg_name hN hy hl' hf') pgs_nil h2) h1) h3 h4

/-- the element's reading in every block of the comprehension -/
def tWb (X : Cx) (scope : Scope) (e : Expr) : TE := fun σ H' Q => ∀ s H C cl fp, tW (X.blk s H scope (compEnvC scope cl C X.env) fp) e σ H' Q
def tWTb (X : Cx) (scope : Scope) (ifs : List Expr) : TT := fun σ H' Q => ∀ s H C cl fp, tWTs (X.blk s H scope (compEnvC scope cl C X.env) fp) ifs σ H' Q
/-- the reading of [elt for tg in iter if ..]: the data that are walked are those of xs; p the tests, f the element, ρf the environment in a turn -/
theorem lcD {α : Type} {elt tg iter : Expr} {ifs : List Expr} {scope : Scope} {own : List Nat} {xs : List α} {en : α → Da} {g : TG} (p : α → Bool) (f : α → Da) (ρf : α → Rho) (hi : PIV X tg iter ρ (xs.map en))
    (hd : ∀ a ∈ xs, TgOk g (wipeR ρ own) (en a) (ρf a) own) (hl : ∀ a ∈ xs, (ρf a).length = ρ.length)
    (ht : ∀ a ∈ xs, ∀ s H C cl fp, PTsV (X.blk s H scope (compEnvC scope cl C X.env) fp) ifs (ρf a) (p a))
    (he : ∀ a ∈ xs, p a = true → ∀ s H C cl fp, PV (X.blk s H scope (compEnvC scope cl C X.env) fp) elt (ρf a) (f a)) :
    ∀ σ G H Q, Same G H → ρ.length ≤ σ.length → EOk G σ ρ → (∀ v G' H', Ext G H G' H' → Dx G' v (.list ((xs.filter p).map f)) → Q v H') → tLc (tWI X tg iter) g (tWTb X scope ifs) (tWb X scope elt) own σ H Q := by
  refine fun σ G H Q sg hl0 he0 hq => hi σ G H _ sg hl0 he0 fun J G1 H1 x1 wk D hD => ?_
  have sm : xs.length ≤ sizeLine := by
    have := wk.small
    rw [List.length_map] at this
    exact this
  let Pv : Nat → Hp → Prop := fun i H2 => ∃ G2 acc, Same G1 G2 ∧ Same G2 H2 ∧ G2 D = none ∧ H2 D = some (.lst acc) ∧ DxAll G2 acc (((xs.take i).filter p).map f) ∧ acc.length ≤ i ∧ (∀ a, H1 a ≠ none → G2 a = G1 a) ∧ Same H1 H2
  have gD : G1 D = none := x1.gh.free hD
  refine ⟨fun i m H2 => i ≤ xs.length ∧ m = xs.length - i ∧ Pv i H2, ⟨xs.length, Nat.zero_le _, rfl, G1, [], Same.refl G1, same_updR x1.gh gD, gD, upd_same, .nil, Nat.le_refl _, fun _ _ => rfl, same_upd hD⟩, ?_⟩
  rintro i m H2 ⟨hi, rfl, G2, acc, s12, s22, nD, eD, dAcc, lAcc, new, sH⟩
  by_cases hlt : i < xs.length
  · refine .inr ⟨wk.go G2 H2 s12 s22 i (by rw [List.length_map]; exact hlt), Pv (i + 1), fun H' hP => ⟨xs.length - (i + 1), by omega, hlt, rfl, hP⟩, fun x H' hy => ?_⟩
    have ha : xs[i]? = some xs[i] := List.getElem?_eq_getElem hlt
    obtain ⟨G3, x3, dx⟩ := wk.yld G2 H2 s12 s22 i (en xs[i]) x H' (by rw [List.getElem?_map, ha]; rfl) hy
    have hm : xs[i] ∈ xs := List.getElem_mem hlt
    have e3 : EOk G3 (wipe σ own) (wipeR ρ own) := (he0.mono ((x1.gg sg).trans (s12.trans (x3.gg s22)))).wipe _
    refine hd _ hm _ G3 H' x _ x3.gh (by rw [wipe_length, wipeR_length]; exact hl0) e3 dx fun σ' hlen e4 hwp => ⟨hwp.trans (by
      have := wipe_wipe (σ := σ) own
      exact this), fun s H C cl fp => ?_⟩
    have hle : (ρf xs[i]).length ≤ σ'.length := by rw [hl _ hm, hlen, wipe_length]; exact hl0
    refine ptsV_run (ht _ hm s H C cl fp) σ' G3 H' _ x3.gh hle e4 fun G4 H4 x4 => ?_
    -- the list at D stands
    have keep : ∀ {G5 H5 : Hp}, Ext G3 H' G5 H5 → H5 D = some (.lst acc) ∧ G5 D = none := fun {G5 H5} x5 => by
      have h' : H' D = some (.lst acc) := x3.hh _ _ eD
      refine ⟨x5.hh _ _ h', ?_⟩
      rw [x5.new D (by rw [h']; exact fun z => nomatch z), x3.new D (by rw [eD]; exact fun z => nomatch z)]
      exact nD
    have newK : ∀ {G5 H5 : Hp}, Ext G3 H' G5 H5 → ∀ a, H1 a ≠ none → G5 a = G1 a := fun {G5 H5} x5 a h1 => by
      have h2 : H2 a ≠ none := fun z => h1 (sH.free z)
      have h3 : H' a ≠ none := fun z => h2 (x3.hh.free z)
      rw [x5.new a h3, x3.new a h2, new a h1]
    have tk : (xs.take (i + 1)).filter p = (xs.take i).filter p ++ (if p xs[i] = true then [xs[i]] else []) := by
      rw [List.take_add_one, ha, Option.toList_some, List.filter_append]
      by_cases hp : p xs[i] = true
      · rw [if_pos hp, List.filter_cons_of_pos hp, List.filter_nil]
      · rw [if_neg hp, List.filter_cons_of_neg hp, List.filter_nil]
    by_cases hp : p xs[i] = true
    · rw [if_pos hp]
      refine fun s H C cl fp => he _ hm hp s H C cl fp σ' G4 H4 _ x4.gh hle (e4.mono (x4.gg x3.gh)) fun y G5 H5 x5 dy => ?_
      have x45 := x4.trans x5
      obtain ⟨k1, k2⟩ := keep x45
      refine ⟨acc, k1, by omega, G5, acc ++ [y], s12.trans ((x3.gg s22).trans (x45.gg x3.gh)), same_updR x45.gh k2, k2, upd_same, ?_, by rw [List.length_append]; exact Nat.succ_le_succ lAcc, newK x45, fun b o eb => ?_⟩
      · rw [tk, if_pos hp, List.map_append]
        exact (DxAll.mono ((x3.gg s22).trans (x45.gg x3.gh)) _ dAcc).append (.cons dy .nil)
      · rw [upd_ne (ne_of_none eb hD)]
        exact x45.hh _ _ (x3.hh _ _ (sH _ _ eb))
    · rw [if_neg hp]
      obtain ⟨k1, k2⟩ := keep x4
      refine ⟨G4, acc, s12.trans ((x3.gg s22).trans (x4.gg x3.gh)), x4.gh, k2, k1, ?_, by omega, newK x4, fun b o eb => x4.hh _ _ (x3.hh _ _ (sH _ _ eb))⟩
      rw [tk, if_neg hp, List.append_nil]
      exact DxAll.mono ((x3.gg s22).trans (x4.gg x3.gh)) _ dAcc
  · have ei : i = xs.length := by omega
    subst ei
    have st := wk.stop G2 H2 s12 s22
    rw [List.length_map] at st
    refine .inl ⟨st, hq _ (upd G2 D (.lst acc)) H2 ⟨x1.hh.trans sH, fun b o eb => ?_, fun a ha => ?_⟩ (.lst upd_same ?_)⟩
    · by_cases hb : b = D
      · subst hb
        rw [upd_same] at eb
        cases eb
        exact eD
      · rw [upd_ne hb] at eb
        exact s22 _ _ eb
    · have h1 : H1 a ≠ none := fun z => ha (x1.hh.free z)
      have hb : a ≠ D := fun z => h1 (by rw [z]; exact hD)
      rw [upd_ne hb, new a h1, x1.new a ha]
    · rw [List.take_length] at dAcc
      exact DxAll.mono (same_upd nD) _ dAcc
/-- as a value -/
theorem pv_lc {α : Type} {elt tg iter : Expr} {ifs : List Expr} {scope : Scope} {own : List (Str × Nat)} {xs : List α} {en : α → Da} {g : TG} (p : α → Bool) (f : α → Da) (ρf : α → Rho) (hc : X.calm = true) (hN : X.N.Nodup) (hi : PIV X tg iter ρ (xs.map en)) (ok : BlkOk X.N X.env.scope scope own)
    (hg : ∀ s H C cl fp, PG (X.blk s H scope (compEnvC scope cl C X.env) fp) tg g) (hd : ∀ a ∈ xs, TgOk g (wipeR ρ (own.map (·.2))) (en a) (ρf a) (own.map (·.2))) (hl : ∀ a ∈ xs, (ρf a).length = ρ.length)
    (ht : ∀ a ∈ xs, ∀ s H C cl fp, PTsV (X.blk s H scope (compEnvC scope cl C X.env) fp) ifs (ρf a) (p a))
    (he : ∀ a ∈ xs, p a = true → ∀ s H C cl fp, PV (X.blk s H scope (compEnvC scope cl C X.env) fp) elt (ρf a) (f a)) (hs : ∀ x, foldedSetIterable iter X.env x = pure x := by intro _; rfl) :
    PV X (.ListComp elt [⟨tg, iter, ifs, 0⟩] scope pos) ρ (.list ((xs.filter p).map f)) :=
  PE.pv (pe_lc (pos := pos) (own := own) (g := g) (tt := tWTb X scope ifs) (te := tWb X scope elt) hc hN (pi_w tg iter) ok hg
    (fun s H C cl fp => ⟨fun pins s' σ H' Q I h => h s H C cl fp pins s' I⟩) (fun s H C cl fp => ⟨fun pins s' σ H' Q I h => h s H C cl fp pins s' I⟩) hs) (lcD p f ρf hi hd hl ht he)
end
end K42
/-! ## KSort -/
/-! sorted over tuples of which some may be empty; sorted over a tuple -/
namespace K42
open PySem PySem.SeqAt PySem.W PySem.Calls
open PyProof.Rows hiding St
section
variable {prog : Program} {w : World} {A : Around} {E : Value → Shared → Prop} {s : Shared}

theorem kcall_tuple_lt {Q : Value → Shared → Prop} {l b : Addr} {items items2 : Array Value} {e r : Nat → Bool} (hl : s.heap.IsTuple l items) (hb : s.heap.IsTuple b items2)
    (he : ∀ j (h1 : j < items.size) (h2 : j < items2.size), EqAt A.in1 s items[j] items2[j] (e j)) (hr : ∀ j (h1 : j < items.size) (h2 : j < items2.size), e j = false → RcLt A.in1 s items[j] items2[j] (r j))
    (h : Q (.bool (firstLt e r (decide (items.size < items2.size)) (List.range (min items.size items2.size)))) s) : wpAny (model prog w) A (call (.builtin "tuple.__lt__") [.ref l, .ref b]) Q E s := by
  obtain ⟨o1, hx1, c1, m1, d1⟩ := id hl
  obtain ⟨o2, hx2, c2, m2, d2⟩ := id hb
  obtain ⟨cls1, dd1, data1, sl1⟩ := o1
  obtain ⟨cls2, dd2, data2, sl2⟩ := o2
  simp only at c1 d1 c2 d2
  subst c1 d1 c2 d2
  exact call_meets F.slot_tuple_lt ⟨_, hx1, rfl⟩ F.entry_tuple_lt (F.args_tuple_lt_2 _ _) (tuple_ltAt l b items items2 m1 m2 dd1 dd2 sl1 sl2 e r) ⟨hx1, hx2, he, hr, h⟩

/-- one key against another, both tuples -/
theorem koneLt_tuple {xs ys : List PyData} {a b : Value} {as bs : List Addr} {Q : Bool → Shared → Prop} (ra : Reads s.heap a (.tuple xs) as) (rb : Reads s.heap b (.tuple ys) bs) (hal : alikeAll xs ys = true)
    (hu : A.units + min (PyData.tuple xs).depth (PyData.tuple ys).depth < cLine) (hq : Q (dataLt (.tuple xs) (.tuple ys)) s) : wpAny (model prog w) A (oneLt' true a b) Q E s := by
  cases ra with
  | @tuple l o vs n _ as₁ h1 h2 h3 h4 =>
    cases rb with
    | @tuple l' o' vs' n' _ bs₁ k1 k2 k3 k4 =>
      have n1 : vs.size = xs.length := by simpa using ReadsAll.length _ _ _ h4
      have n2 : vs'.size = ys.length := by simpa using ReadsAll.length _ _ _ k4
      rw [dataLt_tuple, ← firstLt_toks xs ys hal, ← n1, ← n2] at hq
      rw [oneLt'_eq]
      simp only [if_true]
      refine wpAny_bind (wpAny_cRoomFor (room_here hu) ?_)
      refine wpAny_bind (wpAny_callSpecialIfBound?_slot (T := "tuple") ⟨_, h1, h2⟩ F.slot_tuple_lt (kcall_tuple_lt (e := pairEq xs ys) (r := fun j => dataLt (xs.getD j .none) (ys.getD j .none)) ⟨_, h1, h2, _, h3⟩ ⟨_, k1, k2, _, k3⟩ (fun j j1 j2 => ?_) (fun j j1 j2 hj => ?_) ?_))
      · have q := eqAt_alikeAll xs ys A.in1 s vs.toList vs'.toList _ _ h4 k4 hal (room_in hu) j (by simpa using j1) (by simpa using j2)
        rw [Array.getElem_toList, Array.getElem_toList] at q
        exact q
      · have q := rcLt_alikeAll xs ys A.in1 s vs.toList vs'.toList _ _ h4 k4 hal (room_in hu) j (by simpa using j1) (by simpa using j2) hj
        rw [Array.getElem_toList, Array.getElem_toList] at q
        exact q
      · exact wpAny_truthy_bool hq

/-- what the first items are, where there are any -/
theorem kfirsts {M : Model} : ∀ {vs : List Value} {ds : List PyData}, EachIs (fun v d => ∃ as, Reads s.heap v d as) vs ds → (∀ d, d ∈ ds → ∃ xs, d = .tuple xs) →
    ∃ fs : List (Option Value), fs.length = vs.length ∧ (∀ (i : Nat) (xs : List PyData), ds[i]? = some (.tuple xs) → ∃ f, fs[i]? = some f ∧ f.isSome = !xs.isEmpty) ∧ ∀ {Q : List (Option Value) → Shared → Prop}, Q fs s → wpAny M A (vs.mapM firstOfTuple') Q E s
  | _, _, .nil, _ => ⟨[], rfl, fun i xs h => (by simp at h), fun h => by rw [List.mapM_nil]; exact wpAny_pure h⟩
  | v :: vs, d :: ds, .cons h t, ht => by
    obtain ⟨fs, h1, h2, h3⟩ := kfirsts t fun d hd => ht d (List.mem_cons_of_mem _ hd)
    obtain ⟨as, r⟩ := h
    obtain ⟨xs, rfl⟩ := ht d List.mem_cons_self
    cases r with
    | @tuple a o items n _ _ ho hc hd hr =>
      refine ⟨items[0]? :: fs, by rw [List.length_cons, List.length_cons, h1], fun i ys hi => ?_, fun {Q} hq => ?_⟩
      · cases i with
        | zero =>
          have e : xs = ys := by simpa using hi
          subst e
          refine ⟨_, rfl, ?_⟩
          have hl : items.size = xs.length := by simpa using ReadsAll.length _ _ _ hr
          cases xs with
          | nil =>
            rw [Array.getElem?_eq_none (by rw [hl]; exact Nat.le_refl _)]
            rfl
          | cons x r =>
            rw [Array.getElem?_eq_getElem (by rw [hl]; exact Nat.succ_pos _)]
            rfl
        | succ i => exact h2 i ys (by simpa using hi)
      · rw [List.mapM_cons]
        refine wpAny_bind ?_
        rw [kas_first_eq]
        refine wpAny_bind (Looks.here (show Looks _ s.heap (typeOf (.ref a)) o.cls from (Looks.ld ho).andThen .now) ?_)
        rw [hc, if_neg (by first | decide | simp)]
        refine wpAny_bind (listItems_at ho hd (wpAny_pure ?_))
        exact wpAny_bind (h3 (Q := fun bs s' => wpAny _ A (pure (items[0]? :: bs)) Q E s') (wpAny_pure hq))

/-- tuples that are alike can be sorted, whatever their lengths -/
theorem ksortsAt_tups {vs : List Value} {ds : List PyData} (e : EachIs (fun v d => ∃ as, Reads s.heap v d as) vs ds) (hal : AllAlike ds) (ht : ∀ d, d ∈ ds → ∃ xs, d = .tuple xs) (hu : ∀ d, d ∈ ds → A.units + d.depth < cLine) : SortsAt prog w A s (dataKind s.heap ds) vs := by
  by_cases hne : ∀ d, d ∈ ds → ∃ x r, d = .tuple (x :: r)
  · exact SortsAt.data e hal (.inl hne) hu
  have room : ∀ {d d' : PyData}, d ∈ ds → A.units + min d.depth d'.depth < cLine := fun {d d'} hd => Nat.lt_of_le_of_lt (Nat.add_le_add_left (Nat.min_le_left _ _) _) (hu d hd)
  have keys : ∀ v, v ∈ vs → ∃ a, (dataKind s.heap ds).keyOf v = some a := fun v hv => by
    obtain ⟨d, hd, as, r⟩ := e.left v hv
    exact ⟨_, dataKind_some hal hd r⟩
  have ltG : PyProof.Rows.H.LtAt prog w A s (dataKind s.heap ds) general' := by
    intro E x y a b Q ha hb hq
    obtain ⟨d, as, hd, ra, rfl⟩ := dataKind_inv ha
    obtain ⟨d', as', hd', rb, rfl⟩ := dataKind_inv hb
    obtain ⟨xs, rfl⟩ := ht d hd
    show wpAny _ _ (oneLt' false x y) _ _ _
    exact oneLt_alike (fun z => absurd z Bool.false_ne_true) ra rb (hal _ hd d' hd') (fun z => nomatch z) (room hd) hq
  have ltO : PyProof.Rows.H.LtAt prog w A s (dataKind s.heap ds) oneType' := by
    intro E x y a b Q ha hb hq
    obtain ⟨d, as, hd, ra, rfl⟩ := dataKind_inv ha
    obtain ⟨d', as', hd', rb, rfl⟩ := dataKind_inv hb
    obtain ⟨xs, rfl⟩ := ht d hd
    obtain ⟨ys, rfl⟩ := ht d' hd'
    rw [keyLt'_oneType]
    exact koneLt_tuple ra rb (by simpa [alike] using hal _ hd _ hd') (room hd) hq
  obtain ⟨fs, f1, f2, _⟩ := kfirsts (A := A) (E := fun _ _ => True) (s := s) (M := model prog w) e ht
  by_cases h0 : (fs.toArray[0]?.bind id).isSome = true
  · refine ⟨keys, general', ltG, fun h2 E Q hq => ?_⟩
    obtain ⟨fs', g1, g2, g3⟩ := kfirsts (A := A) (E := E) (s := s) (M := model prog w) e ht
    have ef : ∀ (i : Nat), (fs'[i]?).map (·.isSome) = (fs[i]?).map (·.isSome) := fun i => by
      by_cases hi : i < ds.length
      · obtain ⟨xs, hx⟩ := ht _ (List.getElem_mem hi)
        have hx' : ds[i]? = some (.tuple xs) := by rw [List.getElem?_eq_getElem hi, hx]
        obtain ⟨p, p1, p2⟩ := f2 i xs hx'
        obtain ⟨q, q1, q2⟩ := g2 i xs hx'
        rw [p1, q1, Option.map_some, Option.map_some, p2, q2]
      · have hl := e.length
        rw [List.getElem?_eq_none (by omega), List.getElem?_eq_none (by omega)]
    rw [keyKind'_eq, List.mapM_toArray, map_eq_pure_bind]
    refine wpAny_bind (wpAny_bind (g3 (wpAny_pure ?_)))
    rw [if_neg ?_, if_pos ?_]
    · exact wpAny_pure hq
    · have := ef 0
      cases hf : fs[0]? with
      | none =>
        rw [List.getElem?_toArray, hf] at h0
        cases h0
      | some p =>
        rw [List.getElem?_toArray, hf] at h0
        rw [hf] at this
        cases hg : fs'[0]? with
        | none => rw [hg] at this; cases this
        | some q =>
          rw [hg] at this
          rw [List.getElem?_toArray, hg]
          have h3 : p.isSome = true := h0
          have h4 : q.isSome = p.isSome := by simpa using this
          exact h4.trans h3
    · intro hall
      apply hne
      intro d hd
      obtain ⟨xs, rfl⟩ := ht d hd
      obtain ⟨i, hi, he⟩ := List.getElem_of_mem hd
      obtain ⟨q, q1, q2⟩ := g2 i xs (by rw [List.getElem?_eq_getElem hi, he])
      have hq1 : q ∈ fs' := List.mem_of_getElem? q1
      have : q.isSome = true := by
        rw [List.all_toArray] at hall
        exact List.all_eq_true.mp hall q hq1
      rw [q2] at this
      cases xs with
      | nil => cases this
      | cons x r => exact ⟨x, r, rfl⟩
  · refine ⟨keys, oneType', ltO, fun h2 E Q hq => ?_⟩
    obtain ⟨fs', g1, g2, g3⟩ := kfirsts (A := A) (E := E) (s := s) (M := model prog w) e ht
    have ef : ∀ (i : Nat), (fs'[i]?).map (·.isSome) = (fs[i]?).map (·.isSome) := fun i => by
      by_cases hi : i < ds.length
      · obtain ⟨xs, hx⟩ := ht _ (List.getElem_mem hi)
        have hx' : ds[i]? = some (.tuple xs) := by rw [List.getElem?_eq_getElem hi, hx]
        obtain ⟨p, p1, p2⟩ := f2 i xs hx'
        obtain ⟨q, q1, q2⟩ := g2 i xs hx'
        rw [p1, q1, Option.map_some, Option.map_some, p2, q2]
      · have hl := e.length
        rw [List.getElem?_eq_none (by omega), List.getElem?_eq_none (by omega)]
    rw [keyKind'_eq, List.mapM_toArray, map_eq_pure_bind]
    refine wpAny_bind (wpAny_bind (g3 (wpAny_pure ?_)))
    rw [if_neg ?_, if_neg ?_]
    · rw [oneTypeOnly'_eq, List.mapM_toArray, map_eq_pure_bind]
      refine wpAny_bind (wpAny_bind (wpAny_bind (kas_mapM (r := Value.type "tuple") _ (fun v hv Q' hq' => ?_) (wpAny_pure ?_))))
      · obtain ⟨d, hd, as, r⟩ := e.left v hv
        obtain ⟨xs, rfl⟩ := ht d hd
        exact (looks_reads r).here hq'
      · obtain ⟨v₁, v₂, rest, rfl⟩ : ∃ v₁ v₂ rest, vs = v₁ :: v₂ :: rest := by
          match vs, h2 with
          | [], h2 => simp at h2
          | [_], h2 => simp at h2
          | v₁ :: v₂ :: rest, _ => exact ⟨v₁, v₂, rest, rfl⟩
        have a1 : ((List.map (fun _ => Value.type "tuple") (v₁ :: v₂ :: rest)).toArray.all fun x => x == Value.type "tuple") = true := by
          simp only [List.all_toArray, List.all_map, List.all_eq_true]
          intro _ _
          rfl
        have a0 : (List.map (fun _ => Value.type "tuple") (v₁ :: v₂ :: rest)).toArray[0]? = some (Value.type "tuple") := by simp
        rw [a0]
        simp only [a1, if_true]
        exact wpAny_pure (wpAny_pure hq)
    · intro hc
      apply h0
      have := ef 0
      cases hg : fs'[0]? with
      | none =>
        rw [List.getElem?_toArray, hg] at hc
        cases hc
      | some q =>
        rw [List.getElem?_toArray, hg] at hc
        rw [hg] at this
        cases hf : fs[0]? with
        | none => rw [hf] at this; cases this
        | some p =>
          rw [hf] at this
          rw [List.getElem?_toArray, hf]
          have h3 : q.isSome = true := hc
          have h4 : q.isSome = p.isSome := by simpa using this
          exact h4.symm.trans h3
    · intro hall
      apply hne
      intro d hd
      obtain ⟨xs, rfl⟩ := ht d hd
      obtain ⟨i, hi, he⟩ := List.getElem_of_mem hd
      obtain ⟨q, q1, q2⟩ := g2 i xs (by rw [List.getElem?_eq_getElem hi, he])
      have hq1 : q ∈ fs' := List.mem_of_getElem? q1
      have : q.isSome = true := by
        rw [List.all_toArray] at hall
        exact List.all_eq_true.mp hall q hq1
      rw [q2] at this
      cases xs with
      | nil => cases this
      | cons x r => exact ⟨x, r, rfl⟩

theorem kcollect_tuple {l : Addr} {vs : List Value} {Q : List Value → Shared → Prop} (hl : s.heap.IsTuple l vs.toArray) (hsz : vs.length ≤ sizeLine)
    (h : Q vs { s with heap := (s.heap.push (seqObj "list" #[] 0)).update s.heap.objs.size (Obj.mapSeq (· ++ vs.toArray)) }) : wpAny (model prog w) A (collect (.ref l)) Q E s := by
  obtain ⟨o, hx, hc, n, hd⟩ := id hl
  unfold collect
  refine wpAny_bind (wpAny_runValue (codeAny_builtin entry_proto_collect' ?_))
  show wpAny _ _ (do again (.builtin "list.__iadd__" ⟨[← newList [], .ref l], []⟩)) _ _ s
  refine wpAny_bind (wpAny_newList (wpAny_pure ⟨Code.quiet_builtin _ (by decide +kernel), codeAny_builtin entry_list_iadd' ?_⟩))
  show wpAny _ _ (Builtin.List.listExtendWith (.ref s.heap.objs.size) (.ref l) (.ref s.heap.objs.size)) _ _ { s with heap := s.heap.push (seqObj "list" #[] 0) }
  unfold Builtin.List.listExtendWith
  have hx' : (s.heap.push (seqObj "list" #[] 0)).get? l = some o := Heap.get?_push_of_some _ hx
  refine wpAny_bind (wpAny_typeOf (T := "tuple") ⟨o, hx', hc⟩ ?_)
  have hq : (Value.type "tuple" == Value.type "tuple") = true := by rfl
  rw [if_pos (by rw [hq]; simp)]
  refine wpAny_bind (listItems_at hx' hd ?_)
  refine wpAny_bind (listItems_at (xs := #[]) (n := 0) (Heap.get?_push_size _ rfl) rfl ?_)
  rw [if_neg (by simp)]
  refine wpAny_bind (listUpdate_at (xs := #[]) (n := 0) (Heap.get?_push_size _ rfl) rfl ?_ (Nat.zero_le _) (by show (#[] ++ vs.toArray).size ≤ sizeLine + 1; simp only [Array.size_append, List.size_toArray, List.length_nil]; omega))
  refine wpAny_pure ?_
  show wpAny (model prog w) A (do
      let o ← load s.heap.objs.size
      match o.data with
      | .seq xs _ => pure xs.toList
      | _ => unsupported "internal:collect") Q E { s with heap := (s.heap.push (seqObj "list" #[] 0)).update s.heap.objs.size (Obj.mapSeq (· ++ vs.toArray)) }
  refine wpAny_bind (wpAny_load (get?_update_seq (Heap.get?_push_size _ rfl) _) ?_)
  show wpAny _ _ (pure ((#[] : Array Value) ++ vs.toArray).toList) Q E _
  rw [show ((#[] : Array Value) ++ vs.toArray).toList = vs by simp]
  exact wpAny_pure h
theorem ksorted_tup {κ : PyProof.Rows.KeyKind} {l : Addr} {vs : List Value} {Q : Value → Shared → Prop} (hl : s.heap.IsTuple l vs.toArray) (S : SortsAt prog w A.in1.in1 { s with heap := sortingHeap (copyHeap s.heap vs) (s.heap.objs.size + 1) vs } κ vs) (hL : vs.length ≤ sizeLine)
    (h : Q (.ref (s.heap.objs.size + 1)) { s with heap := sortedAll s.heap vs (sortVals κ false vs vs).toArray }) : wpAny (model prog w) A (call (.builtin "sorted") [.ref l]) Q E s := by
  refine call_function_entry_kw kind_sorted plain_sorted entry_sorted (args_sorted1 _) ?_
  unfold Builtin.«sorted»
  refine wpAny_bind (m := checkCount "sorted" 1 1 _) (wpAny_pure ?_)
  refine wpAny_bind (kcollect_tuple hl hL ?_)
  refine wpAny_bind (wpAny_newList ?_ hL)
  have hz : ((s.heap.push (seqObj "list" #[] 0)).update s.heap.objs.size (Obj.mapSeq (· ++ vs.toArray))).objs.size = s.heap.objs.size + 1 := by
    rw [Heap.size_update, size_push']
  show wpAny _ _ _ _ _ { s with heap := copyHeap s.heap vs }
  rw [hz]
  refine wpAny_bind (wpAny_holding (wpAny_call_entry_kw slot_list_sort ⟨_, copyHeap_at s.heap vs, rfl⟩ entry_list_sort ?body (args_list_sort _)))
  case body =>
    show wpAny (model prog w) A.in1.in1 (Builtin.«list.sort» ⟨[.ref (s.heap.objs.size + 1)], []⟩) _ _ _
    exact list_sort_vals (s := { s with heap := copyHeap s.heap vs }) (copyHeap_at s.heap vs) S hL ⟨_, rfl, wpAny_pure ⟨_, rfl, h⟩⟩
end

/-! ### as a rule over the layer -/
open L2
section
variable {X : Cx}
/-- what can be sorted: alike data, all tuples or none a tuple or None -/
structure SortOk (ds : List Da) : Prop where
  alk : ∀ d ∈ ds, ∀ e ∈ ds, alike (er d) (er e) = true
  kind : (∀ d ∈ ds, ∃ xs, er d = .tuple xs) ∨ ∀ d ∈ ds, er d ≠ .none ∧ ∀ xs, er d ≠ .tuple xs
  dep : ∀ d ∈ ds, (er d).plain = true ∧ (er d).depth ≤ 60
def rSortD : List V → Hp → VK → Prop := fun vs H Q => ∃ G a ds, Same G H ∧ vs = [.ref a] ∧ (Dx G (.ref a) (.list ds) ∨ ∃ k, Dx G (.ref a) (.tuple k ds)) ∧ SortOk ds ∧
  ∀ p out, H p = none → DxAll G out (ds.mergeSort (dataLe false er)) → Q (.ref p) (upd H p (.lst out))
theorem each_of {G : Hp} : ∀ {xs : List V} {us : List Value} {ds : List Da}, Vals xs us → DxAll G xs ds → EachIs (fun u d => ∃ x, RelV x u ∧ Dx G x d) us ds
  | _, _, _, .nil, h => by cases h; exact .nil
  | _, _, _, .cons r t, h => by
    cases h with
    | cons h1 h2 => exact .cons ⟨_, r, h1⟩ (each_of t h2)
theorem of_each {G : Hp} : ∀ {us : List Value} {ds : List Da}, EachIs (fun u d => ∃ x, RelV x u ∧ Dx G x d) us ds → ∃ xs, Vals xs us ∧ DxAll G xs ds
  | _, _, .nil => ⟨[], .nil, .nil⟩
  | _, _, .cons ⟨x, r, h⟩ t => by
    obtain ⟨xs, h1, h2⟩ := of_each t
    exact ⟨x :: xs, .cons r h1, .cons h h2⟩
theorem each_in {P : Value → Da → Prop} : ∀ {us : List Value} {ds : List Da}, EachIs P us ds → EachIs (fun u d => d ∈ ds ∧ P u d) us ds
  | _, _, .nil => .nil
  | _, _, .cons h t => .cons ⟨List.mem_cons_self, h⟩ ((each_in t).mono fun u d ⟨m, q⟩ => ⟨List.mem_cons_of_mem _ m, q⟩)
theorem cr_sortD (hu : X.A.units + 70 < cLine) : CallR X (.builtin "sorted") rSortD := by
  intro pins s σ H vs us Q I r h
  obtain ⟨G, a, ds, sg, rfl, hd, ok, q⟩ := h
  rw [Vals.ref1 r]
  have key : ∀ (xs : List V) (its : List Value), Vals xs its → DxAll G xs ds → xs.length ≤ sizeLine → (∀ Q', Q' (Value.ref (s.heap.objs.size + 1)) { s with heap := sortedAll s.heap its (sortVals (dataKind (sortingHeap (copyHeap s.heap its) (s.heap.objs.size + 1) its) (ds.map er)) false its its).toArray } →
      SortsAt X.prog X.w X.A.in1.in1 { s with heap := sortingHeap (copyHeap s.heap its) (s.heap.objs.size + 1) its } (dataKind (sortingHeap (copyHeap s.heap its) (s.heap.objs.size + 1) its) (ds.map er)) its → wpAny (model X.prog X.w) X.A (call (.builtin "sorted") [.ref a]) Q' X.xe s) →
      wpAny (model X.prog X.w) X.A (call (.builtin "sorted") [.ref a]) (EP X pins σ Q) X.xe s := by
    intro xs its rv hx hz run
    have e := each_of rv hx
    have er' : EachIs (fun v d => ∃ as, Reads (sortingHeap (copyHeap s.heap its) (s.heap.objs.size + 1) its) v (er d) as) its ds :=
      (each_in e).mono fun u d ⟨md, x, r1, h1⟩ => by
        obtain ⟨as, q1⟩ := Dp.reads I (er d) x u (Dx.dp X.K d (ok.dep d md).1 (Dx.mono sg d h1)) r1
        exact ⟨as, Reads.keeps (fun _ _ => sorting_copy_old) q1⟩
    have hun : ∀ d, d ∈ ds.map er → X.A.in1.in1.units + d.depth < cLine := fun d hdm => by
      obtain ⟨d', hd', rfl⟩ := List.mem_map.mp hdm
      have := (ok.dep d' hd').2
      show X.A.units + 1 + 1 + (er d').depth < cLine
      omega
    have hal : AllAlike (ds.map er) := fun d h d' h' => by
      obtain ⟨a1, m1, rfl⟩ := List.mem_map.mp h
      obtain ⟨a2, m2, rfl⟩ := List.mem_map.mp h'
      exact ok.alk _ m1 _ m2
    have S : SortsAt X.prog X.w X.A.in1.in1 { s with heap := sortingHeap (copyHeap s.heap its) (s.heap.objs.size + 1) its } (dataKind (sortingHeap (copyHeap s.heap its) (s.heap.objs.size + 1) its) (ds.map er)) its := by
      rcases ok.kind with k | k
      · exact ksortsAt_tups (s := { s with heap := sortingHeap (copyHeap s.heap its) (s.heap.objs.size + 1) its }) (each_map er er') hal (fun d h => by
          obtain ⟨a1, m1, rfl⟩ := List.mem_map.mp h
          exact k _ m1) hun
      · exact SortsAt.data (s := { s with heap := sortingHeap (copyHeap s.heap its) (s.heap.objs.size + 1) its }) (each_map er er') hal (.inr fun d h => by
          obtain ⟨a1, m1, rfl⟩ := List.mem_map.mp h
          exact k _ m1) hun
    refine run _ ?_ S
    have e2 : EachIs (fun u d => ∃ x, RelV x u ∧ Dx G x d) (sortVals (dataKind (sortingHeap (copyHeap s.heap its) (s.heap.objs.size + 1) its) (ds.map er)) false its its) (ds.mergeSort (dataLe false er)) :=
      sortVals_data (enc := er) (bs := ds) (h' := sortingHeap (copyHeap s.heap its) (s.heap.objs.size + 1) its) false e er' hal
    obtain ⟨out, o1, o2⟩ := of_each e2
    obtain ⟨ep, hp⟩ := PyProof.Rows.sortedAll_at s.heap its (sortVals (dataKind (sortingHeap (copyHeap s.heap its) (s.heap.objs.size + 1) its) (ds.map er)) false its its).toArray
    have hlen : out.length ≤ sizeLine := by
      rw [o2.length, (List.mergeSort_perm _ _).length_eq, ← hx.length]
      exact hz
    exact ⟨.ref _, upd H (s.heap.objs.size + 1) (.lst out), I.laid (t' := s.toks) (fun _ _ => PyProof.Rows.sortedAll_old) (Nat.le_succ _) ⟨hlen, _, ep, o1, hp⟩, rfl, q _ out (I.hok.fresh (Nat.le_succ _)) o2⟩
  rcases hd with hd | ⟨kd, hd⟩
  · cases hd with
    | lst h1 h2 =>
      obtain ⟨its, rv, hl, hz⟩ := I.list (SqL.of (sg _ _ h1))
      exact key _ its rv h2 hz fun Q' hq' S => sorted_vals hl.isList S (by rw [← rv.length]; exact hz) hq'
  · cases hd with
    | tup h1 h2 =>
      obtain ⟨its, rv, hl, hz⟩ := I.tuple (h1.mono sg).sqt
      exact key _ its rv h2 hz fun Q' hq' S => ksorted_tup hl S (by rw [← rv.length]; exact hz) hq'
end
end K42
/-! ## KLay4 -/
namespace K42
open PySem PySem.Spec L2
open PyProof.Rows hiding St

section
variable {X : Cx} {e e2 : Expr} {es : List Expr} {ρ : Rho} {d : Da} {ds : List Da} {p pos : Pos} {x : Str}

/-! ### calls of what is built in -/
theorem pv_callB {id : String} {r : List V → Hp → VK → Prop} (hc : CallR X (.builtin id) r) (hg : Gl X x) (hm : X.mg x = none) (hv : bootBuiltins x = some (.builtin id)) (ha : PAV X (e :: es) ρ ds)
    (hr : ∀ vs G H Q, Same G H → Hz H → DxAll G vs ds → (∀ v G' H', Ext G H G' H' → Dx G' v d → Q v H') → r vs H Q) (hn : x ≠ "__name__" := by decide) (hdb : (x == ("__debug__" : Str)) = false := by decide)
    (h1 : starEach (e :: es) X.env = (false, eval e X.env) :: starEach es X.env := by rfl) (h2 : (backTo pos (starEach es X.env)).any (·.1) = false := by rfl) : PV X (.Call (.Name x p) (e :: es) [] pos) ρ d :=
  PE.pv (pe_callB hc hg hm hv (pa_z (e :: es)) hn hdb h1 h2) fun σ G H Q sg hl he hq => ha σ G H _ sg hl he fun vs G1 H1 x1 d1 z => hr vs G1 H1 Q x1.gh z d1 fun v G' H' x2 d2 => hq v G' H' (x1.trans x2) d2
theorem pv_callTy {T : String} {r : List V → Hp → VK → Prop} (hc : CallR X (.type T) r) (hg : Gl X x) (hm : X.mg x = none) (hv : bootBuiltins x = some (.type T)) (ha : PAV X (e :: es) ρ ds)
    (hr : ∀ vs G H Q, Same G H → Hz H → DxAll G vs ds → (∀ v G' H', Ext G H G' H' → Dx G' v d → Q v H') → r vs H Q) (hn : x ≠ "__name__" := by decide) (hdb : (x == ("__debug__" : Str)) = false := by decide)
    (h1 : starEach (e :: es) X.env = (false, eval e X.env) :: starEach es X.env := by rfl) (h2 : (backTo pos (starEach es X.env)).any (·.1) = false := by rfl) : PV X (.Call (.Name x p) (e :: es) [] pos) ρ d :=
  PE.pv (pe_callTy hc hg hm hv (pa_z (e :: es)) hn hdb h1 h2) fun σ G H Q sg hl he hq => ha σ G H _ sg hl he fun vs G1 H1 x1 d1 z => hr vs G1 H1 Q x1.gh z d1 fun v G' H' x2 d2 => hq v G' H' (x1.trans x2) d2

theorem boot_len' : bootBuiltins "len" = some (.builtin "len") := boot_len
theorem boot_all' : bootBuiltins "all" = some (.builtin "all") := by decide +kernel
theorem boot_any' : bootBuiltins "any" = some (.builtin "any") := by decide +kernel
theorem boot_min' : bootBuiltins "min" = some (.builtin "min") := by decide +kernel
theorem boot_max' : bootBuiltins "max" = some (.builtin "max") := by decide +kernel
theorem boot_sum' : bootBuiltins "sum" = some (.builtin "sum") := by decide +kernel
theorem boot_abs' : bootBuiltins "abs" = some (.builtin "abs") := by decide +kernel
theorem boot_sorted' : bootBuiltins "sorted" = some (.builtin "sorted") := by decide +kernel
theorem boot_int' : bootBuiltins "int" = some (.type "int") := by decide +kernel
theorem boot_tuple' : bootBuiltins "tuple" = some (.type "tuple") := by decide +kernel

section
variable (h1 : starEach [e] X.env = (false, eval e X.env) :: starEach [] X.env) (h2 : (backTo pos (starEach [] X.env)).any (·.1) = false)
theorem pv_lenL (ha : PV X e ρ (.list ds)) (hm : X.mg "len" = none) (hg : Gl X "len" := by rfl) (h1 : starEach [e] X.env = (false, eval e X.env) :: starEach [] X.env := by rfl) (h2 : (backTo pos (starEach [] X.env)).any (·.1) = false := by rfl) : PV X (.Call (.Name "len" p) [e] [] pos) ρ (.int (ds.length : Nat)) :=
  pv_callB call_len_seq hg hm boot_len' (pav_cons ha pav_nil h1) (fun vs G H Q sg z hd hq => by
    cases hd with
    | cons k1 k2 =>
      cases k2
      cases k1 with
      | lst m1 m2 =>
        refine ⟨_, _, rfl, .inl (SqL.of (sg _ _ m1)), ?_⟩
        rw [m2.length]
        exact hq _ G H (.refl sg) (.int _)) (by decide) (by decide) h1 h2
theorem pv_lenT {k : Bool} (ha : PV X e ρ (.tuple k ds)) (hm : X.mg "len" = none) (hg : Gl X "len" := by rfl) (h1 : starEach [e] X.env = (false, eval e X.env) :: starEach [] X.env := by rfl) (h2 : (backTo pos (starEach [] X.env)).any (·.1) = false := by rfl) : PV X (.Call (.Name "len" p) [e] [] pos) ρ (.int (ds.length : Nat)) :=
  pv_callB call_len_seq hg hm boot_len' (pav_cons ha pav_nil h1) (fun vs G H Q sg z hd hq => by
    cases hd with
    | cons k1 k2 =>
      cases k2
      cases k1 with
      | tup m1 m2 =>
        refine ⟨_, _, rfl, .inr (m1.mono sg).sqt, ?_⟩
        rw [m2.length]
        exact hq _ G H (.refl sg) (.int _)) (by decide) (by decide) h1 h2
theorem pv_tupleL (ha : PV X e ρ (.list ds)) (hm : X.mg "tuple" = none) (hg : Gl X "tuple" := by rfl) (h1 : starEach [e] X.env = (false, eval e X.env) :: starEach [] X.env := by rfl) (h2 : (backTo pos (starEach [] X.env)).any (·.1) = false := by rfl) : PV X (.Call (.Name "tuple" p) [e] [] pos) ρ (.tuple false ds) :=
  pv_callTy call_tuple_of hg hm boot_tuple' (pav_cons ha pav_nil h1) (fun vs G H Q sg z hd hq => by
    cases hd with
    | cons k1 k2 =>
      cases k2
      cases k1 with
      | lst m1 m2 =>
        exact ⟨_, _, rfl, .inl ⟨SqL.of (sg _ _ m1), fun l hl => hq _ _ _ (Ext.add sg hl) (.tup upd_same (DxAll.mono (same_upd (sg.free hl)) _ m2))⟩⟩) (by decide) (by decide) h1 h2
/-- a new tuple that is known to bear no dict -/
theorem call_tupleF : CallR X (.type "tuple") (fun xs H Q => ∃ p ys, xs = [.ref p] ∧ SqL X.K H p ys ∧ ∀ l (o : Obj), H l = none → o.cls = .type "tuple" → o.dict = none → Q (.ref l) (upd H l (.frz o (.tup ys)))) := by
  intro pins s σ H xs us Q I r h
  obtain ⟨p, ys, rfl, hq, q⟩ := h
  obtain ⟨u, rfl, rx⟩ := vals1 r
  cases rx
  obtain ⟨its, rv, pl, hz⟩ := I.list hq
  have hl := rv.length
  refine call_tuple_list pl.isList (fun h' kp => ?_) (by rw [List.size_toArray, ← hl]; exact hz)
  have I1 : Inv X pins σ H { s with heap := h' } := I.kept (t' := s.toks) kp
  exact ⟨.ref h'.objs.size, _, I1.laid (t' := s.toks) (a := h'.objs.size) (o := .frz { cls := .type "tuple", data := .seq its.toArray } (.tup ys)) (fun b o e => Heap.get?_push_of_some _ e) (Nat.le_refl _) ⟨Heap.get?_push_size _ rfl, hz, its, rv, IsTup.new _ _⟩, rfl, q _ _ (I1.hok.fresh (Nat.le_refl _)) rfl rfl⟩
theorem pv_tupleF (ha : PV X e ρ (.list ds)) (hm : X.mg "tuple" = none) (hg : Gl X "tuple" := by rfl) (h1 : starEach [e] X.env = (false, eval e X.env) :: starEach [] X.env := by rfl) (h2 : (backTo pos (starEach [] X.env)).any (·.1) = false := by rfl) : PV X (.Call (.Name "tuple" p) [e] [] pos) ρ (.tuple true ds) :=
  pv_callTy call_tupleF hg hm boot_tuple' (pav_cons ha pav_nil h1) (fun vs G H Q sg z hd hq => by
    cases hd with
    | cons k1 k2 =>
      cases k2
      cases k1 with
      | lst m1 m2 =>
        exact ⟨_, _, rfl, SqL.of (sg _ _ m1), fun l o hl oc od => hq _ _ _ (Ext.add sg hl) (.tup ⟨o, upd_same, oc, od⟩ (DxAll.mono (same_upd (sg.free hl)) _ m2))⟩) (by decide) (by decide) h1 h2
def tTupF (t : TA) : TE := fun σ H Q => t σ H fun xs H1 => xs.length ≤ sizeLine ∧ ∀ p (o : Obj), H1 p = none → o.cls = .type "tuple" → o.dict = none → Q (.ref p) (upd H1 p (.frz o (.tup xs)))
theorem pe_tupF {x1} {t : TA} (h : PA X es t) : PE X (.Tuple es x1 pos) (tTupF t) := by
  refine ⟨fun pins s σ H Q I hq => ?_⟩
  refine wpAny_Tuple_spliced (thn (h.run pos pins s σ H _ I hq) fun us s1 ⟨xs, H1, I1, r, z, q⟩ => ⟨by rw [← r.length]; exact z, ?_⟩)
  exact ⟨.ref s1.heap.objs.size, _, I1.laid (t' := s1.toks) (a := s1.heap.objs.size) (o := .frz { cls := .type "tuple", data := .seq us.toArray } (.tup xs)) (fun b u e => Heap.get?_push_of_some _ e) (Nat.le_refl _) ⟨Heap.get?_push_size _ rfl, z, us, r, ⟨_, Heap.get?_push_size _ rfl, rfl, _, rfl⟩⟩, rfl, q _ _ (I1.hok.fresh (Nat.le_refl _)) rfl rfl⟩
theorem pv_tupF {x1} (h : PAV X es ρ ds) (hz : ds.length ≤ 1000 := by exact Nat.le_of_ble_eq_true rfl) : PV X (.Tuple es x1 pos) ρ (.tuple true ds) :=
  PE.pv (pe_tupF (pa_w es)) fun σ G H Q sg hl he hq => h σ G H _ sg hl he fun vs G1 H1 x1 d1 => ⟨by rw [d1.length, sizeLine_eq]; omega, fun p o hp oc od =>
    hq (.ref p) _ _ (x1.trans (Ext.add x1.gh hp)) (.tup ⟨o, upd_same, oc, od⟩ (DxAll.mono (same_upd (x1.gh.free hp)) _ d1))⟩
theorem pv_all {bs : List Bool} (hc : X.calm = true) (ha : PV X e ρ (.list (bs.map Da.bool))) (hm : X.mg "all" = none) (hg : Gl X "all" := by rfl) (h1 : starEach [e] X.env = (false, eval e X.env) :: starEach [] X.env := by rfl) (h2 : (backTo pos (starEach [] X.env)).any (·.1) = false := by rfl) : PV X (.Call (.Name "all" p) [e] [] pos) ρ (.bool (bs.all id)) :=
  pv_callB (cr_all hc) hg hm boot_all' (pav_cons ha pav_nil h1) (fun vs G H Q sg z hd hq => by
    cases hd with
    | cons k1 k2 =>
      cases k2
      cases k1 with
      | lst m1 m2 =>
        have e := m2.bl_of
        subst e
        exact ⟨_, bs, rfl, SqL.of (sg _ _ m1), hq _ G H (.refl sg) (.bl _)⟩) (by decide) (by decide) h1 h2
theorem pv_any {bs : List Bool} (hc : X.calm = true) (ha : PV X e ρ (.list (bs.map Da.bool))) (hm : X.mg "any" = none) (hg : Gl X "any" := by rfl) (h1 : starEach [e] X.env = (false, eval e X.env) :: starEach [] X.env := by rfl) (h2 : (backTo pos (starEach [] X.env)).any (·.1) = false := by rfl) : PV X (.Call (.Name "any" p) [e] [] pos) ρ (.bool (bs.any id)) :=
  pv_callB (cr_any hc) hg hm boot_any' (pav_cons ha pav_nil h1) (fun vs G H Q sg z hd hq => by
    cases hd with
    | cons k1 k2 =>
      cases k2
      cases k1 with
      | lst m1 m2 =>
        have e := m2.bl_of
        subst e
        exact ⟨_, bs, rfl, SqL.of (sg _ _ m1), hq _ G H (.refl sg) (.bl _)⟩) (by decide) (by decide) h1 h2
theorem pv_sum {ns : List Int} (hc : X.calm = true) (ha : PV X e ρ (.list (ns.map Da.int))) (hm : X.mg "sum" = none) (hg : Gl X "sum" := by rfl) (h1 : starEach [e] X.env = (false, eval e X.env) :: starEach [] X.env := by rfl) (h2 : (backTo pos (starEach [] X.env)).any (·.1) = false := by rfl) : PV X (.Call (.Name "sum" p) [e] [] pos) ρ (.int ns.sum) :=
  pv_callB (cr_sum hc) hg hm boot_sum' (pav_cons ha pav_nil h1) (fun vs G H Q sg z hd hq => by
    cases hd with
    | cons k1 k2 =>
      cases k2
      cases k1 with
      | lst m1 m2 =>
        have e := m2.int_of
        subst e
        exact ⟨_, ns, rfl, SqL.of (sg _ _ m1), hq _ G H (.refl sg) (.int _)⟩) (by decide) (by decide) h1 h2
theorem pv_absI {i : Int} (ha : PV X e ρ (.int i)) (hm : X.mg "abs" = none) (hg : Gl X "abs" := by rfl) (h1 : starEach [e] X.env = (false, eval e X.env) :: starEach [] X.env := by rfl) (h2 : (backTo pos (starEach [] X.env)).any (·.1) = false := by rfl) : PV X (.Call (.Name "abs" p) [e] [] pos) ρ (.int (if i < 0 then -i else i)) :=
  pv_callB call_abs hg hm boot_abs' (pav_cons ha pav_nil h1) (fun vs G H Q sg z hd hq => by
    cases hd with
    | cons k1 k2 =>
      cases k2
      cases k1
      exact ⟨i, rfl, hq _ G H (.refl sg) (.int _)⟩) (by decide) (by decide) h1 h2
theorem pv_intI {i : Int} (ha : PV X e ρ (.int i)) (hm : X.mg "int" = none) (hg : Gl X "int" := by rfl) (h1 : starEach [e] X.env = (false, eval e X.env) :: starEach [] X.env := by rfl) (h2 : (backTo pos (starEach [] X.env)).any (·.1) = false := by rfl) : PV X (.Call (.Name "int" p) [e] [] pos) ρ (.int i) :=
  pv_callTy call_int1 hg hm boot_int' (pav_cons ha pav_nil h1) (fun vs G H Q sg z hd hq => by
    cases hd with
    | cons k1 k2 =>
      cases k2
      cases k1
      exact .inl ⟨i, rfl, hq _ G H (.refl sg) (.int _)⟩) (by decide) (by decide) h1 h2
theorem pv_intB {b : Bool} (ha : PV X e ρ (.bool b)) (hm : X.mg "int" = none) (hg : Gl X "int" := by rfl) (h1 : starEach [e] X.env = (false, eval e X.env) :: starEach [] X.env := by rfl) (h2 : (backTo pos (starEach [] X.env)).any (·.1) = false := by rfl) : PV X (.Call (.Name "int" p) [e] [] pos) ρ (.int (if b then 1 else 0)) :=
  pv_callTy call_int1 hg hm boot_int' (pav_cons ha pav_nil h1) (fun vs G H Q sg z hd hq => by
    cases hd with
    | cons k1 k2 =>
      cases k2
      cases k1
      exact .inr ⟨b, rfl, hq _ G H (.refl sg) (.int _)⟩) (by decide) (by decide) h1 h2
theorem pv_max2 {i j : Int} (hc : X.calm = true) (ha : PV X e ρ (.int i)) (hb : PV X e2 ρ (.int j)) (hm : X.mg "max" = none) (hg : Gl X "max" := by rfl) (h1 : starEach [e, e2] X.env = (false, eval e X.env) :: starEach [e2] X.env := by rfl) (h3 : starEach [e2] X.env = (false, eval e2 X.env) :: starEach [] X.env := by rfl) (h2 : (backTo pos (starEach [e2] X.env)).any (·.1) = false := by rfl) : PV X (.Call (.Name "max" p) [e, e2] [] pos) ρ (.int (max i j)) :=
  pv_callB (call_max2 hc) hg hm boot_max' (pav_cons ha (pav_cons hb pav_nil h3) h1) (fun vs G H Q sg z hd hq => by
    cases hd with
    | cons k1 k2 =>
      cases k2 with
      | cons k2 k3 =>
        cases k3
        cases k1
        cases k2
        have e : (if j > i then j else i) = max i j := by split <;> omega
        exact ⟨i, j, rfl, e ▸ hq _ G H (.refl sg) (.int _)⟩) (by decide) (by decide) h1 h2

/-- min of a list of alike data: the first of the least -/
def minA (d : Da) (ds : List Da) : Da := ds.foldl (fun a y => if PySem.W.dataLt (er y) (er a) then y else a) d
theorem minA_mem : ∀ (ds : List Da) (x : Da), minA x ds ∈ x :: ds
  | [], x => List.mem_cons_self
  | y :: ys, x => by
    unfold minA
    rw [List.foldl_cons]
    rcases List.mem_cons.mp (minA_mem ys (if PySem.W.dataLt (er y) (er x) then y else x)) with e | e
    · unfold minA at e
      rw [e]
      split
      · exact List.mem_cons_of_mem _ List.mem_cons_self
      · exact List.mem_cons_self
    · exact List.mem_cons_of_mem _ (List.mem_cons_of_mem _ e)
theorem minA_er : ∀ (ds : List Da) (x : Da), er (minA x ds) = PySem.W.minD (er x) (ds.map er)
  | [], x => rfl
  | y :: ys, x => by
    have ih := minA_er ys (if PySem.W.dataLt (er y) (er x) then y else x)
    unfold minA PySem.W.minD at ih ⊢
    rw [List.foldl_cons, List.map_cons, List.foldl_cons, ih]
    congr 1
    split <;> rfl
structure MinOk (d : Da) (ds : List Da) : Prop where
  alk : ∀ a ∈ d :: ds, ∀ b ∈ d :: ds, PySem.W.alike (er a) (er b) = true
  non : ∀ a ∈ d :: ds, er a ≠ .none
  dep : PyData.depthAll (erAll (d :: ds)) ≤ 60
  pl : PyData.plainAll (erAll (d :: ds)) = true
  inj : ∀ a ∈ d :: ds, ∀ b ∈ d :: ds, er a = er b → a = b
def rMinD : List V → Hp → VK → Prop := fun vs H Q => ∃ G a d ds, Same G H ∧ vs = [.ref a] ∧ Dx G (.ref a) (.list (d :: ds)) ∧ MinOk d ds ∧ ∀ v, Dx G v (minA d ds) → Q v H
theorem cr_minD (hc : X.calm = true) (hu : X.A.units + 70 < cLine) : CallR X (.builtin "min") rMinD := by
  intro pins s σ H vs us Q I r h
  obtain ⟨G, a, d, ds, sg, rfl, hd, ok, q⟩ := h
  rw [Vals.ref1 r]
  cases hd with
  | lst m1 m2 =>
    obtain ⟨its, rv, hl, hz⟩ := I.list (SqL.of (sg _ _ m1))
    obtain ⟨as, hr⟩ := Dp.readsAll I (erAll (d :: ds)) _ its (DxAll.dp X.K _ ok.pl (DxAll.mono sg _ m2)) rv
    have hr' : ReadsAll s.heap its.toArray.toList (er d :: ds.map er) as := by
      rw [erAll_eq] at hr
      simpa using hr
    have hdep := ok.dep
    rw [erAll_eq] at hdep
    refine PySem.W.min_list_data (I.ok.hd hc) hl.isList hr' ⟨fun x hx y hy => ?_, fun x hx => ?_⟩ (by
      have : PyData.depthAll (er d :: ds.map er) ≤ 60 := hdep
      omega) fun i v h' tk bs hi hrd hk => ?_
    · have hx' : x ∈ (d :: ds).map er := hx
      have hy' : y ∈ (d :: ds).map er := hy
      obtain ⟨x', mx, rfl⟩ := List.mem_map.mp hx'
      obtain ⟨y', my, rfl⟩ := List.mem_map.mp hy'
      exact ok.alk _ mx _ my
    · have hx' : x ∈ (d :: ds).map er := hx
      obtain ⟨x', mx, rfl⟩ := List.mem_map.mp hx'
      exact ok.non _ mx
    have hi' : its[i]? = some v := by simpa using hi
    have hlt : i < its.length := (List.getElem?_eq_some_iff.mp hi').1
    rw [← rv.length] at hlt
    have hx := List.getElem?_eq_getElem hlt
    obtain ⟨u, hu', rx⟩ := rv.get hx
    rw [hi'] at hu'
    cases hu'
    obtain ⟨dx, hdx, hxx⟩ := m2.get' hx
    have I2 : Inv X pins σ H { s with heap := h', toks := tk } := I.kept hk
    obtain ⟨cs, hrx⟩ := Dx.reads I2 sg (PySem.W.plain_mem ok.pl (by rw [erAll_eq]; exact List.mem_map_of_mem (List.mem_of_getElem? hdx))) hxx rx
    rw [← minA_er] at hrd
    have e := PySem.W.alike_unique _ _ _ _ _ (ok.alk _ (List.mem_of_getElem? hdx) _ (minA_mem ds d)) hrx hrd
    have e2 := ok.inj _ (List.mem_of_getElem? hdx) _ (minA_mem ds d) e
    exact ⟨_, H, I2, rx, q _ (e2 ▸ hxx)⟩
theorem pv_min {d : Da} {ds : List Da} (hc : X.calm = true) (hu : X.A.units + 70 < cLine) (ok : MinOk d ds) (ha : PV X e ρ (.list (d :: ds))) (hm : X.mg "min" = none) (hg : Gl X "min" := by rfl) (h1 : starEach [e] X.env = (false, eval e X.env) :: starEach [] X.env := by rfl) (h2 : (backTo pos (starEach [] X.env)).any (·.1) = false := by rfl) : PV X (.Call (.Name "min" p) [e] [] pos) ρ (minA d ds) :=
  pv_callB (cr_minD hc hu) hg hm boot_min' (pav_cons ha pav_nil h1) (fun vs G H Q sg z hd hq => by
    cases hd with
    | cons k1 k2 =>
      cases k2
      cases k1 with
      | lst m1 m2 => exact ⟨G, _, d, ds, sg, rfl, .lst m1 m2, ok, fun v hv => hq v G H (.refl sg) hv⟩) (by decide) (by decide) h1 h2
/-- sorted of a list, of a tuple -/
def msort (ds : List Da) : List Da := ds.mergeSort (PySem.W.dataLe false er)
theorem pv_sortedL (hu : X.A.units + 70 < cLine) (ok : SortOk ds) (ha : PV X e ρ (.list ds)) (hm : X.mg "sorted" = none) (hg : Gl X "sorted" := by rfl) (h1 : starEach [e] X.env = (false, eval e X.env) :: starEach [] X.env := by rfl) (h2 : (backTo pos (starEach [] X.env)).any (·.1) = false := by rfl) : PV X (.Call (.Name "sorted" p) [e] [] pos) ρ (.list (msort ds)) :=
  pv_callB (cr_sortD hu) hg hm boot_sorted' (pav_cons ha pav_nil h1) (fun vs G H Q sg z hd hq => by
    cases hd with
    | cons k1 k2 =>
      cases k2
      cases k1 with
      | lst m1 m2 => exact ⟨G, _, ds, sg, rfl, .inl (.lst m1 m2), ok, fun q out hp ho => hq _ _ _ (Ext.add sg hp) (.lst upd_same (DxAll.mono (same_upd (sg.free hp)) _ ho))⟩) (by decide) (by decide) h1 h2
theorem pv_sortedT {k : Bool} (hu : X.A.units + 70 < cLine) (ok : SortOk ds) (ha : PV X e ρ (.tuple k ds)) (hm : X.mg "sorted" = none) (hg : Gl X "sorted" := by rfl) (h1 : starEach [e] X.env = (false, eval e X.env) :: starEach [] X.env := by rfl) (h2 : (backTo pos (starEach [] X.env)).any (·.1) = false := by rfl) : PV X (.Call (.Name "sorted" p) [e] [] pos) ρ (.list (msort ds)) :=
  pv_callB (cr_sortD hu) hg hm boot_sorted' (pav_cons ha pav_nil h1) (fun vs G H Q sg z hd hq => by
    cases hd with
    | cons k1 k2 =>
      cases k2
      cases k1 with
      | tup m1 m2 => exact ⟨G, _, ds, sg, rfl, .inr ⟨_, .tup m1 m2⟩, ok, fun q out hp ho => hq _ _ _ (Ext.add sg hp) (.lst upd_same (DxAll.mono (same_upd (sg.free hp)) _ ho))⟩) (by decide) (by decide) h1 h2
end
/-! tuple(range(n)), list(range(n)) -/
theorem rgV_upto (n : Nat) : rgV 0 (n : Int) = (List.range n).map fun i : Nat => V.int (i : Int) := by
  unfold rgV
  rw [show ((n : Int) - 0).toNat = n by omega]
  exact List.map_congr_left fun i _ => by rw [Int.zero_add]
theorem pv_tupRange {n : Nat} {p2 p3 : Pos} (hz : n ≤ 100000) (hc : X.calm = true) (ha : PV X e ρ (.int (n : Int))) (hm : X.mg "tuple" = none) (hm2 : X.mg "range" = none) (hg : Gl X "tuple" := by rfl) (hg2 : Gl X "range" := by rfl)
    (h1 : starEach [e] X.env = (false, eval e X.env) :: starEach [] X.env := by rfl) (h2 : starEach [.Call (.Name "range" p2) [e] [] p3] X.env = (false, eval (.Call (.Name "range" p2) [e] [] p3) X.env) :: starEach [] X.env := by rfl) :
    PV X (.Call (.Name "tuple" p) [.Call (.Name "range" p2) [e] [] p3] [] pos) ρ (.tuple false (upto n)) :=
  PE.pv (pe_tupRg hc hg hm (prg_1 hg2 hm2 (pe_w e) h1) h2) fun σ G H Q sg hl he hq => ha σ G H _ sg hl he fun v G1 H1 x1 d1 => by
    cases d1
    refine ⟨_, rfl, RgOk.of_le (by omega) (by omega) (by omega) (by omega), fun q hp => hq _ _ _ (x1.trans (Ext.add x1.gh hp)) (.tup upd_same ?_)⟩
    rw [rgV_upto]
    exact upto_dx _ n
theorem pv_listRange {n : Nat} {p2 p3 : Pos} (hz : n ≤ 100000) (hc : X.calm = true) (ha : PV X e ρ (.int (n : Int))) (hm : X.mg "list" = none) (hm2 : X.mg "range" = none) (hg : Gl X "list" := by rfl) (hg2 : Gl X "range" := by rfl)
    (h1 : starEach [e] X.env = (false, eval e X.env) :: starEach [] X.env := by rfl) (h2 : starEach [.Call (.Name "range" p2) [e] [] p3] X.env = (false, eval (.Call (.Name "range" p2) [e] [] p3) X.env) :: starEach [] X.env := by rfl) :
    PV X (.Call (.Name "list" p) [.Call (.Name "range" p2) [e] [] p3] [] pos) ρ (.list (upto n)) :=
  PE.pv (pe_listRg hc hg hm (prg_1 hg2 hm2 (pe_w e) h1) h2) fun σ G H Q sg hl he hq => ha σ G H _ sg hl he fun v G1 H1 x1 d1 => by
    cases d1
    refine ⟨_, rfl, RgOk.of_le (by omega) (by omega) (by omega) (by omega), fun q hp => hq _ _ _ (x1.trans (Ext.add x1.gh hp)) (.lst upd_same ?_)⟩
    rw [rgV_upto]
    exact upto_dx _ n

/-! ### t.count(x), t.index(x) of a tuple that bears no dict -/
def tMT (r : V → List V → Hp → VK → Prop) (to : TE) (t : TA) : TE := fun σ H Q => to σ H fun x H1 => ∃ G a xs, x = .ref a ∧ Same G H1 ∧ TupAt G true a xs ∧ t σ H1 fun ys H2 => r x ys H2 Q
theorem pe_mt {o : Expr} {to : TE} {t : TA} {name : Str} {apos cpos : Pos} {id : String} {r : V → List V → Hp → VK → Prop} (slot : Slot "tuple" name id) (hty : typeOf (.builtin id) = pure (.type "method_descriptor")) (hm : MtR X id r) (ho : PE X o to) (ha : PA X (e :: es) t)
    (hbase : attributeBase o name X.env (eval o X.env) = eval o X.env)
    (hfew : ((backTo cpos (starEach (e :: es) X.env)).all (fun x => !x.1) && (backToKw cpos (keywordEach [] X.env)).all (fun x => x.1.isSome)
      && decide ((e :: es).length + ([] : List Keyword).length + (if ([] : List Keyword).isEmpty then 0 else 1) < 30)) = true)
    (hline : (apos.endLine == cpos.line) = true) (hs : starEach (e :: es) X.env = (false, eval e X.env) :: starEach es X.env) (hplain : (backTo cpos (starEach es X.env)).any (·.1) = false) :
    PE X (.Call (.Attribute o name apos) (e :: es) [] cpos) (tMT r to t) := by
  refine ⟨fun pins s σ H Q I h => ?_⟩
  refine wpAny_Call_method_late hbase hfew hline rfl (thn (ho.run pins s σ H _ I h) fun v s1 ⟨x, H1, I1, r1, G, a, xs, ex, sg, ⟨ob, f1, f2, f3⟩, q1⟩ => ?_)
  subst ex
  cases r1
  have hob : s1.heap.get? a = some ob := (I1.hok a _ (sg _ _ f1)).1
  refine ⟨"tuple", id, PySem.F.plainAttrs_tuple, slot, hty, ⟨ob, hob, f2⟩, fun b e => ?_, ?_⟩
  · cases e
    exact ⟨ob, hob, f3⟩
  · have hA := ha.run cpos pins s1 σ H1 _ I1 q1
    rw [hs] at hA ⊢
    refine Calls.callWith_builtin (by show (false || (backTo cpos (starEach es X.env)).any (·.1)) = false; rw [hplain] <;> rfl) (Calls.evalArgs_plain ?_)
    exact thn hA fun us s2 ⟨vs, H2, I2, r2, q2⟩ => hm pins s2 σ H2 (.ref a) vs (.ref a) us Q I2 rfl r2 q2
def rCountD : V → List V → Hp → VK → Prop := fun o xs H Q => ∃ G d k es y, Same G H ∧ Dx G o (.tuple k es) ∧ xs = [y] ∧ Dx G y d ∧ depthOk d ∧ PyData.plainAll (erAll es) = true ∧ Q (.int ((es.countP fun z => PyData.eqv (er z) (er d) : Nat) : Int)) H
theorem mt_countD (hu : X.A.units + 70 < cLine) : MtR X "tuple.count" rCountD := by
  intro pins s σ H o xs v us Q I ro rxs h
  obtain ⟨G, d, k, es, y, sg, ho, rfl, hy, sd, se, q⟩ := h
  cases ho with
  | tup m1 m2 =>
    cases ro
    cases rxs with
    | cons ry rt =>
      cases rt
      obtain ⟨its, rv, ht, hz⟩ := I.tuple (m1.mono sg).sqt
      obtain ⟨as, hr⟩ := Dp.readsAll I (erAll es) _ its (DxAll.dp X.K _ se (DxAll.mono sg _ m2)) rv
      obtain ⟨bs, hry⟩ := Dx.reads I sg sd.1 hy ry
      have hr' : ReadsAll s.heap its.toArray.toList (erAll es) as := by simpa using hr
      refine SeqAt.count_tuple_data ht hr' hry se sd.1 (room_of1 sd.2 (by omega)) ⟨.int _, H, I.tok _, ⟨_, rfl⟩, ?_⟩
      rw [erAll_eq, List.countP_map]
      exact q
theorem pv_count {o : Expr} {es : List Da} {apos : Pos} (hu : X.A.units + 70 < cLine) (ho : PV X o ρ (.tuple true es)) (ha : PV X e ρ d) (sd : depthOk d) (se : PyData.plainAll (erAll es) = true)
    (hbase : attributeBase o "count" X.env (eval o X.env) = eval o X.env := by rfl) (hfew : ((backTo pos (starEach [e] X.env)).all (fun x => !x.1) && (backToKw pos (keywordEach [] X.env)).all (fun x => x.1.isSome)
      && decide ([e].length + ([] : List Keyword).length + (if ([] : List Keyword).isEmpty then 0 else 1) < 30)) = true := by rfl) (hline : (apos.endLine == pos.line) = true := by rfl)
    (h1 : starEach [e] X.env = (false, eval e X.env) :: starEach [] X.env := by rfl) (h2 : (backTo pos (starEach [] X.env)).any (·.1) = false := by rfl) :
    PV X (.Call (.Attribute o "count" apos) [e] [] pos) ρ (.int ((es.countP fun z => PyData.eqv (er z) (er d) : Nat) : Int)) :=
  PE.pv (pe_mt PySem.F.slot_tuple_count PySem.F.type_tuple_count (mt_countD hu) (pe_w o) (pa_w [e]) hbase hfew hline h1 h2) fun σ G H Q sg hl he hq => ho σ G H _ sg hl he fun v G1 H1 x1 d1 => by
    cases d1 with
    | tup m1 m2 =>
      refine ⟨G1, _, _, rfl, x1.gh, m1, (pav_cons ha pav_nil h1) σ G1 H1 _ x1.gh hl (he.mono (x1.gg sg)) fun vs G2 H2 x2 d2 => ?_⟩
      cases d2 with
      | cons k1 k2 =>
        cases k2
        exact ⟨G2, d, _, es, _, x2.gh, .tup (m1.mono (x2.gg x1.gh)) (DxAll.mono (x2.gg x1.gh) _ m2), rfl, k1, sd, se, hq _ G2 H2 (x1.trans x2) (.int _)⟩
theorem plain_ints : ∀ ns : List Int, PyData.plainAll (erAll (ns.map Da.int)) = true
  | [] => by rw [List.map_nil, erAll, PyData.plainAll]
  | n :: ns => by rw [List.map_cons, erAll, er, PyData.plainAll, plain_ints ns, PyData.plain, Bool.and_self]
/-- t.index(i), whole numbers -/
def rIndexI : V → List V → Hp → VK → Prop := fun o xs H Q => ∃ (G : Hp) (k : Bool) (ns : List Int) (i : Int), Same G H ∧ Dx G o (.tuple k (ns.map Da.int)) ∧ xs = [.int i] ∧ i ∈ ns ∧ Q (.int ((ns.idxOf i : Nat) : Int)) H
theorem holds_ints {h : Heap} : ∀ {us : List Value} {ns : List Int} {as : List Addr}, ReadsAll h us (ns.map PyData.int) as → PySem.W.HoldAll h us ns := fun {us ns as} r => ⟨as, r⟩
theorem mt_indexI (hu : X.A.units + 70 < cLine) : MtR X "tuple.index" rIndexI := by
  intro pins s σ H o xs v us Q I ro rxs h
  obtain ⟨G, k, ns, i, sg, ho, rfl, hi, q⟩ := h
  cases ho with
  | tup m1 m2 =>
    cases ro
    cases rxs with
    | cons ry rt =>
      cases rt
      obtain ⟨t, rfl⟩ := ry
      obtain ⟨its, rv, ht, hz⟩ := I.tuple (m1.mono sg).sqt
      obtain ⟨as, hr⟩ := Dp.readsAll I (erAll (ns.map Da.int)) _ its (DxAll.dp X.K _ (plain_ints ns) (DxAll.mono sg _ m2)) rv
      have e : erAll (ns.map Da.int) = ns.map PyData.int := by
        rw [erAll_eq, List.map_map]
        exact List.map_congr_left fun _ _ => by show er (Da.int _) = _; rw [er]
      rw [e] at hr
      exact PySem.W.index_tuple_datum ht (holds_ints hr) (PySem.W.holds_int i t) (by show X.A.units + 1 + 0 < cLine; omega) hi ⟨.int _, H, I.tok _, ⟨_, rfl⟩, q⟩
theorem pv_index {o : Expr} {ns : List Int} {i : Int} {apos : Pos} (hu : X.A.units + 70 < cLine) (ho : PV X o ρ (.tuple true (ns.map Da.int))) (ha : PV X e ρ (.int i)) (hi : i ∈ ns)
    (hbase : attributeBase o "index" X.env (eval o X.env) = eval o X.env := by rfl) (hfew : ((backTo pos (starEach [e] X.env)).all (fun x => !x.1) && (backToKw pos (keywordEach [] X.env)).all (fun x => x.1.isSome)
      && decide ([e].length + ([] : List Keyword).length + (if ([] : List Keyword).isEmpty then 0 else 1) < 30)) = true := by rfl) (hline : (apos.endLine == pos.line) = true := by rfl)
    (h1 : starEach [e] X.env = (false, eval e X.env) :: starEach [] X.env := by rfl) (h2 : (backTo pos (starEach [] X.env)).any (·.1) = false := by rfl) :
    PV X (.Call (.Attribute o "index" apos) [e] [] pos) ρ (.int ((ns.idxOf i : Nat) : Int)) :=
  PE.pv (pe_mt PySem.F.slot_tuple_index PySem.F.type_tuple_index (mt_indexI hu) (pe_w o) (pa_w [e]) hbase hfew hline h1 h2) fun σ G H Q sg hl he hq => ho σ G H _ sg hl he fun v G1 H1 x1 d1 => by
    cases d1 with
    | tup m1 m2 =>
      refine ⟨G1, _, _, rfl, x1.gh, m1, (pav_cons ha pav_nil h1) σ G1 H1 _ x1.gh hl (he.mono (x1.gg sg)) fun vs G2 H2 x2 d2 => ?_⟩
      cases d2 with
      | cons k1 k2 =>
        cases k2
        cases k1
        exact ⟨G2, _, ns, i, x2.gh, .tup (m1.mono (x2.gg x1.gh)) (DxAll.mono (x2.gg x1.gh) _ m2), rfl, hi, hq _ G2 H2 (x1.trans x2) (.int _)⟩
end
end K42
/-! ## KLay5 -/
namespace K42
open PySem PySem.Spec L2
open PyProof.Rows hiding St

/-! ### defs: data in, a datum out -/
def spD (F : List Da → Da → Prop) : Sp := fun vs H Q _ => ∃ G ds r, Same G H ∧ DxAll G vs ds ∧ F ds r ∧ ∀ v G' H', Ext G H G' H' → Dx G' v r → Q v H'
section
variable {X : Cx} {e e2 : Expr} {es : List Expr} {ρ : Rho} {d : Da} {ds : List Da} {p pos : Pos} {x : Str}
theorem pv_call {k : Nat} {f : Addr} {fd : FuncData} {ps : List Str} {F : List Da → Da → Prop} (G : FnOk X.prog X.w X.K X.mg X.base CX0 k f fd ps (spD F)) (hr : Room k X.A) (hm : X.mg x = some (.ref f)) (hk : PySem.W.keepIn X.K (.ref f) = true) (hb : Binds X.K fd ps [])
    (ha : PAV X (e :: es) ρ ds) (h : F ds d) (hg : Gl X x := by rfl) (hdb : (x == ("__debug__" : Str)) = false := by decide) (h1 : starEach (e :: es) X.env = (false, eval e X.env) :: starEach es X.env := by rfl) (h2 : (backTo pos (starEach es X.env)).any (·.1) = false := by rfl) :
    PV X (.Call (.Name x p) (e :: es) [] pos) ρ d :=
  PE.pv (pe_call G hr hg hm hk hb .nil pass0 (pa_w (e :: es)) hdb h1 h2) fun σ G H Q sg hl he hq => ha σ G H _ sg hl he fun vs G1 H1 x1 d1 => by
    show spD F (vs ++ []) H1 Q E0
    rw [List.append_nil]
    exact ⟨G1, ds, d, x1.gh, d1, h, fun v G' H' x2 d2 => hq v G' H' (x1.trans x2) d2⟩
end

/-! ### statements -/
/-- one list may be owned: its slot, what it holds -/
abbrev Own := Option (Nat × List Da)
structure SOk (G0 H0 G H : Hp) (σ : St) (ρ : Rho) (ω : Own) : Prop where
  ext : Ext G0 H0 G H
  len : ρ.length ≤ σ.length
  env : EOk G σ ρ
  own : ∀ i ds, ω = some (i, ds) → ∃ p vs, σ[i]? = some (some (.ref p)) ∧ H p = some (.lst vs) ∧ DxAll G vs ds ∧ G p = none ∧ H0 p = none
theorem SOk.step {G0 H0 G H G' H' : Hp} {σ : St} {ρ : Rho} {ω : Own} (s : SOk G0 H0 G H σ ρ ω) (x : Ext G H G' H') : SOk G0 H0 G' H' σ ρ ω :=
  ⟨s.ext.trans x, s.len, s.env.mono (x.gg s.ext.gh), fun i ds h => by
    obtain ⟨p, vs, h1, h2, h3, h4, h5⟩ := s.own i ds h
    exact ⟨p, vs, h1, x.hh _ _ h2, DxAll.mono (x.gg s.ext.gh) _ h3, by rw [x.new p (by rw [h2]; exact fun z => nomatch z)]; exact h4, h5⟩⟩
/-- a slot that is not the owned one is stored -/
def notAt (ω : Own) (i : Nat) : Prop := ∀ ds, ω ≠ some (i, ds)
theorem SOk.set {G0 H0 G H : Hp} {σ : St} {ρ : Rho} {ω : Own} {i : Nat} {v : V} {d : Da} (s : SOk G0 H0 G H σ ρ ω) (hi : notAt ω i) (h : Dx G v d) : SOk G0 H0 G H (σ.set i (some v)) (ρ.set i (some d)) ω :=
  ⟨s.ext, by rw [List.length_set, List.length_set]; exact s.len, s.env.set s.len h, fun j ds hj => by
    obtain ⟨p, vs, h1, h2⟩ := s.own j ds hj
    have hne : i ≠ j := fun e => hi ds (by rw [e]; exact hj)
    exact ⟨p, vs, by rw [List.getElem?_set_ne hne]; exact h1, h2⟩⟩
theorem SOk.le {G0 H0 G H : Hp} {σ : St} {ρ ρ' : Rho} {ω : Own} (s : SOk G0 H0 G H σ ρ' ω) (h : RLe ρ ρ') (hl : ρ.length = ρ'.length) : SOk G0 H0 G H σ ρ ω :=
  ⟨s.ext, by rw [hl]; exact s.len, s.env.le h, s.own⟩

section
variable {X : Cx}
def tWS (X : Cx) (st : Stmt) : TS := fun D σ H => ∀ pins s, Inv X pins σ H s → wpAny (model X.prog X.w) X.A (exec st X.env) (SP X pins D) X.xe s
theorem ps_w (st : Stmt) : PS X st (tWS X st) := ⟨fun pins s σ H D I h => h pins s I⟩
def tWSs (X : Cx) (sts : List Stmt) : TS := fun D σ H => ∀ pins s, Inv X pins σ H s → wpAny (model X.prog X.w) X.A (execs sts X.env) (SP X pins D) X.xe s
theorem pss_w (sts : List Stmt) : PSs X sts (tWSs X sts) := ⟨fun pins s σ H D I h => h pins s I⟩
/-- what a reading of statements makes of the data: N behind it, R where it returns -/
def JT (t : TS) (ρ : Rho) (ω : Own) (N : Rho → Own → Prop) (R : Da → Prop) : Prop :=
  ∀ G0 H0 G H σ (D : Ends), SOk G0 H0 G H σ ρ ω → (∀ σ' G' H' ρ' ω', N ρ' ω' → SOk G0 H0 G' H' σ' ρ' ω' → Same G G' → D.nx σ' H') → (∀ v G' H' d, R d → Ext G0 H0 G' H' → Dx G' v d → D.rt v H') → t D σ H
abbrev S1 (X : Cx) (st : Stmt) := JT (tWS X st)
abbrev SJ (X : Cx) (sts : List Stmt) := JT (tWSs X sts)
variable {st : Stmt} {sts : List Stmt} {ρ : Rho} {ω : Own} {N N1 : Rho → Own → Prop} {R : Da → Prop} {e : Expr} {d : Da} {pos : Pos}
theorem PS.s1 {t : TS} (h : PS X st t) (q : JT t ρ ω N R) : S1 X st ρ ω N R := fun G0 H0 G H σ D s hn hr pins s' I => h.run pins s' σ H D I (q G0 H0 G H σ D s hn hr)
theorem PSs.sj {t : TS} (h : PSs X sts t) (q : JT t ρ ω N R) : SJ X sts ρ ω N R := fun G0 H0 G H σ D s hn hr pins s' I => h.run pins s' σ H D I (q G0 H0 G H σ D s hn hr)
theorem JT.imp {t : TS} {N' : Rho → Own → Prop} {R' : Da → Prop} (h : JT t ρ ω N R) (hN : ∀ ρ ω, N ρ ω → N' ρ ω) (hR : ∀ d, R d → R' d) : JT t ρ ω N' R' :=
  fun G0 H0 G H σ D s hn hr => h G0 H0 G H σ D s (fun σ' G' H' ρ' ω' n => hn σ' G' H' ρ' ω' (hN _ _ n)) fun v G' H' d r => hr v G' H' d (hR d r)
theorem sj_nil (h : N ρ ω) : SJ X [] ρ ω N R := PSs.sj pss_nil fun G0 H0 G H σ D s hn hr => hn σ G H ρ ω h s (Same.refl G)
theorem sj_cons (h1 : S1 X st ρ ω N1 R) (h2 : ∀ ρ' ω', N1 ρ' ω' → SJ X sts ρ' ω' N R) : SJ X (st :: sts) ρ ω N R :=
  PSs.sj (pss_cons (ps_w st) (pss_w sts)) fun G0 H0 G H σ D s hn hr => h1 G0 H0 G H σ _ s (fun σ' G' H' ρ' ω' n s' sg => h2 ρ' ω' n G0 H0 G' H' σ' D s' (fun σ2 G2 H2 ρ2 ω2 n2 s2 sg2 => hn σ2 G2 H2 ρ2 ω2 n2 s2 (sg.trans sg2)) hr) hr
theorem sj_one (h1 : S1 X st ρ ω N R) : SJ X [st] ρ ω N R := sj_cons h1 fun ρ' ω' n => sj_nil n
/-- the usual chain: one environment behind the statement -/
abbrev Is (ρ : Rho) (ω : Own) : Rho → Own → Prop := fun ρ' ω' => ρ' = ρ ∧ ω' = ω
theorem sj_is {ρ1 : Rho} {ω1 : Own} (h1 : S1 X st ρ ω (Is ρ1 ω1) R) (h2 : SJ X sts ρ1 ω1 N R) : SJ X (st :: sts) ρ ω N R :=
  sj_cons h1 fun ρ' ω' n => by
    obtain ⟨rfl, rfl⟩ := n
    exact h2
/-- a statement that never goes on -/
theorem sj_end (h1 : S1 X st ρ ω (fun _ _ => False) R) : SJ X (st :: sts) ρ ω N R := sj_cons h1 fun _ _ n => n.elim

theorem s1_ret (h : PV X e ρ d) (hr : R d) : S1 X (.Return (some e) pos) ρ ω N R :=
  PS.s1 (ps_ret (pe_w e)) fun G0 H0 G H σ D s hn hq => h σ G H _ s.ext.gh s.len s.env fun v G' H' x dx => hq v G' H' d hr (s.ext.trans x) dx
theorem s1_set {i : Nat} {x : Str} {p2 : Pos} (hn : X.N.Nodup) (hi : X.N[i]? = some x) (h : PV X e ρ d) (hω : notAt ω i) (hx : Loc X.env.scope x := by first | exact Or.inl rfl | exact Or.inr rfl) (hs : swapsWith e (some (.Name x p2)) pos.line X.env = pure false := by rfl)
    (hf : X.fn x = true ∨ X.env.scope.names.lookup x = some .local := by first | exact .inl rfl | exact .inr rfl | assumption) : S1 X (.Assign [.Name x p2] e pos) ρ ω (Is (ρ.set i (some d)) ω) R :=
  PS.s1 (ps_set hn hi hx (pe_w e) hs hf) fun G0 H0 G H σ D s hq hr => h σ G H _ s.ext.gh s.len s.env fun v G' H' x dx => hq _ G' H' _ _ ⟨rfl, rfl⟩ ((s.step x).set hω dx) (x.gg s.ext.gh)
/-- y = [..] on one line -/
theorem s1_setLc {α : Type} {i : Nat} {y : Str} {py : Pos} {elt tg iter : Expr} {ifs : List Expr} {scope : Scope} {own : List (Str × Nat)} {p2 : Pos} {xs : List α} {en : α → Da} {g : TG} (p : α → Bool) (f : α → Da) (ρf : α → Rho) (hc : X.calm = true) (hN : X.N.Nodup) (hy : X.N[i]? = some y) (hω : notAt ω i) (hyl : X.env.scope.names.lookup y = some .local)
    (hsw : swapsWith (.ListComp elt [⟨tg, iter, ifs, 0⟩] scope p2) (some (.Name y py)) pos.line X.env = pure true) (hi : PIV X tg iter ρ (xs.map en)) (ok : BlkOk X.N X.env.scope scope own)
    (hg : ∀ s H C cl fp, PG (X.blk s H scope (compEnvC scope cl C X.env) fp) tg g) (hd : ∀ a ∈ xs, TgOk g (wipeR ρ (own.map (·.2))) (en a) (ρf a) (own.map (·.2))) (hl : ∀ a ∈ xs, (ρf a).length = ρ.length)
    (ht : ∀ a ∈ xs, ∀ s H C cl fp, PTsV (X.blk s H scope (compEnvC scope cl C X.env) fp) ifs (ρf a) (p a))
    (he : ∀ a ∈ xs, p a = true → ∀ s H C cl fp, PV (X.blk s H scope (compEnvC scope cl C X.env) fp) elt (ρf a) (f a)) (hs : ∀ x, foldedSetIterable iter X.env x = pure x := by intro _; rfl) :
    S1 X (.Assign [.Name y py] (.ListComp elt [⟨tg, iter, ifs, 0⟩] scope p2) pos) ρ ω (Is (ρ.set i (some (.list ((xs.filter p).map f)))) ω) R :=
  PS.s1 (ps_setLc (own := own) (g := g) (tt := tWTb X scope ifs) (te := tWb X scope elt) hc hN hy hyl hsw (pi_w tg iter) ok hg
    (fun s H C cl fp => ⟨fun pins s' σ H' Q I h => h s H C cl fp pins s' I⟩) (fun s H C cl fp => ⟨fun pins s' σ H' Q I h => h s H C cl fp pins s' I⟩) hs)
    fun G0 H0 G H σ D s hq hr => lcD p f ρf hi hd hl ht he σ G H _ s.ext.gh s.len s.env fun v G' H' x dx => hq _ G' H' _ _ ⟨rfl, rfl⟩ ((s.step x).set hω dx) (x.gg s.ext.gh)
/-- a, b = x, y, two local names -/
theorem s1_par {i j : Nat} {x y : Str} {a b : Expr} {px py pt : Pos} {kt k2 pt2} {da db : Da} (hc : X.calm = true) (hN : X.N.Nodup) (hi : X.N[i]? = some x) (hj : X.N[j]? = some y) (hij : i ≠ j) (ha : PV X a ρ da) (hb : PV X b ρ db) (hω : notAt ω i) (hω2 : notAt ω j)
    (hx : X.env.scope.names.lookup x = some .local := by rfl) (hy : X.env.scope.names.lookup y = some .local := by rfl)
    (hw : swappedStores [.Tuple [.Name x px, .Name y py] kt pt] (.Tuple [a, b] k2 pt2) X.env = pure (some [x, y]) := by rfl)
    (hs : swapsWithSole [.Tuple [.Name x px, .Name y py] kt pt] (.Tuple [a, b] k2 pt2) pos.line X.env = pure false := by rfl)
    (h1 : starEach [a, b] X.env = (false, eval a X.env) :: starEach [b] X.env := by rfl) (h2 : starEach [b] X.env = (false, eval b X.env) :: starEach [] X.env := by rfl) :
    S1 X (.Assign [.Tuple [.Name x px, .Name y py] kt pt] (.Tuple [a, b] k2 pt2) pos) ρ ω (Is ((ρ.set i (some da)).set j (some db)) ω) R :=
  PS.s1 (ps_par hc hN hi hj hij hx hy (pa_w [a, b]) hw hs) fun G0 H0 G H σ D s hq hr => (pav_cons ha (pav_cons hb pav_nil h2) h1) σ G H _ s.ext.gh s.len s.env fun vs G' H' x dx => by
    cases dx with
    | cons d1 d2 =>
      cases d2 with
      | cons d2 d3 =>
        cases d3
        exact ⟨_, _, rfl, hq _ G' H' _ _ ⟨rfl, rfl⟩ (((s.step x).set hω d1).set hω2 d2) (x.gg s.ext.gh)⟩
/-- names take a tuple's items -/
def setAll (ρ : Rho) : List Nat → List Da → Rho
  | i :: is, d :: ds => setAll (ρ.set i (some d)) is ds
  | _, _ => ρ
inductive Names (X : Cx) : List Expr → List Nat → TGs → Prop
  | nil : Names X [] [] gNil
  | cons {e : Expr} {es : List Expr} {i : Nat} {is : List Nat} {u : TGs} : Names X es is u → Names X (e :: es) (i :: is) (gCons (gName i) u)
theorem names_ok {G0 H0 G H : Hp} {ω : Own} {Q : St → Hp → Prop} : ∀ {es : List Expr} {is : List Nat} {u : TGs} {vs : List V} {ds : List Da} {σ : St} {ρ : Rho}, Names X es is u → is.length = ds.length → (∀ i ∈ is, notAt ω i) → DxAll G vs ds → SOk G0 H0 G H σ ρ ω →
    (∀ σ', SOk G0 H0 G H σ' (setAll ρ is ds) ω → Q σ' H) → u vs σ H Q
  | _, _, _, _, _, σ, ρ, .nil, hl, _, .nil, s, hq => ⟨rfl, hq σ s⟩
  | _, _, _, _, _, σ, ρ, .cons n, hl, hω, .cons d1 d2, s, hq =>
    ⟨_, _, rfl, names_ok n (Nat.succ.inj hl) (fun i hi => hω i (List.mem_cons_of_mem _ hi)) d2 (s.set (hω _ List.mem_cons_self) d1) hq⟩
theorem s1_unpack {tgs : List Expr} {kt : Nat} {pt : Pos} {is : List Nat} {u : TGs} {ds : List Da} {k : Bool} {n : Nat} (hc : X.calm = true) (h : PV X e ρ (.tuple k ds)) (hg : PGs X tgs u) (hN : Names X tgs is u) (hl : is.length = ds.length) (hn : ds.length = n) (hω : ∀ i ∈ is, notAt ω i)
    (h1 : (assignEach tgs X.env).length = n := by rfl) (h2 : (assignEach tgs X.env).findIdx? (·.1) = none := by rfl) (hs : swapsWithSole [.Tuple tgs kt pt] e pos.line X.env = pure false := by rfl) (hw : swappedStores [.Tuple tgs kt pt] e X.env = pure none := by rfl)
    (h3 : (assignEach [.Tuple tgs kt pt] X.env).map (·.2) = [assign (.Tuple tgs kt pt) X.env] := by rfl) :
    S1 X (.Assign [.Tuple tgs kt pt] e pos) ρ ω (Is (setAll ρ is ds) ω) R :=
  PS.s1 (ps_asg (pe_w e) (pg_tup hc hg h1 h2) hs hw h3) fun G0 H0 G H σ D s hq hr => h σ G H _ s.ext.gh s.len s.env fun v G' H' x dx => by
    cases dx with
    | tup d1 d2 =>
      refine ⟨_, _, rfl, (d1.mono x.gh).sqt, by rw [d2.length]; exact hn, ?_⟩
      exact names_ok hN hl hω d2 (s.step x) fun σ' s' => hq σ' G' H' _ _ ⟨rfl, rfl⟩ s' (x.gg s.ext.gh)
theorem s1_if {c : Expr} {b : Bool} {xs ys : List Stmt} (h : PTV X c ρ b) (hT : b = true → SJ X xs ρ ω N R) (hF : b = false → SJ X ys ρ ω N R) : S1 X (.If c xs ys pos) ρ ω N R :=
  PS.s1 (ps_if (pt_w c) (pss_w xs) (pss_w ys)) fun G0 H0 G H σ D s hn hr => h σ G H _ s.ext.gh s.len s.env fun G' H' x => by
    have go : ∀ zs : List Stmt, SJ X zs ρ ω N R → tWSs X zs D σ H' := fun zs hz => hz G0 H0 G' H' σ D (s.step x) (fun σ2 G2 H2 ρ2 ω2 n2 s2 sg2 => hn σ2 G2 H2 ρ2 ω2 n2 s2 ((x.gg s.ext.gh).trans sg2)) hr
    cases b with
    | true =>
      rw [if_pos rfl]
      exact go xs (hT rfl)
    | false =>
      rw [if_neg Bool.false_ne_true]
      exact go ys (hF rfl)
/-- the owned list is a datum from here on -/
theorem sj_freeze {i : Nat} {ds : List Da} (h : SJ X sts (ρ.set i (some (.list ds))) none N R) : SJ X sts ρ (some (i, ds)) N R := fun G0 H0 G H σ D s hn hr => by
  obtain ⟨p, vs, h1, h2, h3, h4, h5⟩ := s.own i ds rfl
  have sg : Same G (upd G p (.lst vs)) := same_upd h4
  refine h G0 H0 (upd G p (.lst vs)) H σ D ⟨⟨s.ext.hh, fun b o hb => ?_, fun a ha => ?_⟩, by rw [List.length_set]; exact s.len, fun j dj hj => ?_, fun j dj hj => nomatch hj⟩ (fun σ2 G2 H2 ρ2 ω2 n2 s2 sg2 => hn σ2 G2 H2 ρ2 ω2 n2 s2 (sg.trans sg2)) hr
  · by_cases hbp : b = p
    · subst hbp
      rw [upd_same] at hb
      cases hb
      exact h2
    · rw [upd_ne hbp] at hb
      exact s.ext.gh _ _ hb
  · rw [upd_ne (fun z => ha (by rw [z]; exact h5))]
    exact s.ext.new a ha
  · by_cases hij : i = j
    · subst hij
      by_cases hlt : i < ρ.length
      · rw [List.getElem?_set_self hlt] at hj
        cases hj
        exact ⟨_, h1, .lst upd_same (DxAll.mono sg _ h3)⟩
      · rw [List.getElem?_eq_none (by rw [List.length_set]; omega)] at hj
        cases hj
    · rw [List.getElem?_set_ne hij] at hj
      obtain ⟨v, k1, k2⟩ := s.env j dj hj
      exact ⟨v, k1, Dx.mono sg _ k2⟩
/-- a list that an expression makes anew -/
def PNV (X : Cx) (e : Expr) (ρ : Rho) (ds : List Da) : Prop :=
  ∀ σ G H Q, Same G H → ρ.length ≤ σ.length → EOk G σ ρ → (∀ p vs G' H', Ext G H G' H' → H p = none → G' p = none → H' p = some (.lst vs) → DxAll G' vs ds → Q (.ref p) H') → tW X e σ H Q
theorem pnv_nil {p2 : Pos} : PNV X (.List [] p2) ρ [] := fun σ G H Q sg hl he hq pins s I =>
  (pe_lst (pos := p2) pa_nil).run pins s σ H Q I ⟨Nat.zero_le _, fun p hp => hq p [] G _ ⟨same_upd hp, same_updR sg (sg.free hp), fun _ _ => rfl⟩ hp (sg.free hp) upd_same .nil⟩
theorem pnv_range {n : Nat} {p p2 p3 p4 : Pos} (hz : n ≤ 100000) (hc : X.calm = true) (ha : PV X e ρ (.int (n : Int))) (hm : X.mg "list" = none) (hm2 : X.mg "range" = none) (hg : Gl X "list" := by rfl) (hg2 : Gl X "range" := by rfl)
    (h1 : starEach [e] X.env = (false, eval e X.env) :: starEach [] X.env := by rfl) (h2 : starEach [.Call (.Name "range" p2) [e] [] p3] X.env = (false, eval (.Call (.Name "range" p2) [e] [] p3) X.env) :: starEach [] X.env := by rfl) :
    PNV X (.Call (.Name "list" p) [.Call (.Name "range" p2) [e] [] p3] [] pos) ρ (upto n) := fun σ G H Q sg hl he hq pins s I =>
  (pe_listRg hc hg hm (prg_1 hg2 hm2 (pe_w e) h1) h2).run pins s σ H Q I (ha σ G H _ sg hl he fun v G1 H1 x1 d1 => by
    cases d1
    refine ⟨_, rfl, RgOk.of_le (by omega) (by omega) (by omega) (by omega), fun q hp => ?_⟩
    refine hq q _ G1 _ ⟨x1.hh.trans (same_upd hp), same_updR x1.gh (x1.gh.free hp), x1.new⟩ (x1.hh.free hp) (x1.gh.free hp) upd_same ?_
    rw [rgV_upto]
    exact upto_dx _ n)
theorem SOk.owns {G0 H0 G H G' H' : Hp} {σ : St} {ρ : Rho} {i : Nat} {p : Addr} {vs : List V} {ds : List Da} (s : SOk G0 H0 G H σ ρ none) (hi : i < σ.length) (x : Ext G H G' H') (h0 : H p = none) (hg : G' p = none) (hh : H' p = some (.lst vs)) (hd : DxAll G' vs ds) :
    SOk G0 H0 G' H' (σ.set i (some (.ref p))) (ρ.set i none) (some (i, ds)) :=
  ⟨s.ext.trans x, by rw [List.length_set, List.length_set]; exact s.len, (s.env.mono (x.gg s.ext.gh)).set_none, fun j es hj => by
    cases hj
    exact ⟨p, vs, List.getElem?_set_self hi, hh, hd, hg, s.ext.hh.free h0⟩⟩
theorem s1_own {i : Nat} {x : Str} {p2 : Pos} {ds : List Da} (hn : X.N.Nodup) (hi : X.N[i]? = some x) (hir : i < ρ.length) (h : PNV X e ρ ds) (hx : Loc X.env.scope x := by first | exact Or.inl rfl | exact Or.inr rfl) (hs : swapsWith e (some (.Name x p2)) pos.line X.env = pure false := by rfl)
    (hf : X.fn x = true ∨ X.env.scope.names.lookup x = some .local := by first | exact .inl rfl | exact .inr rfl | assumption) : S1 X (.Assign [.Name x p2] e pos) ρ none (Is (ρ.set i none) (some (i, ds))) R :=
  PS.s1 (ps_set hn hi hx (pe_w e) hs hf) fun G0 H0 G H σ D s hq hr => h σ G H _ s.ext.gh s.len s.env fun p vs G' H' x h0 hg hh hd => hq _ G' H' _ _ ⟨rfl, rfl⟩ (s.owns (Nat.lt_of_lt_of_le hir s.len) x h0 hg hh hd) (x.gg s.ext.gh)
/-- the owned list changes -/
theorem SOk.change {G0 H0 G H G' H' : Hp} {σ : St} {ρ : Rho} {i : Nat} {ds es : List Da} {p : Addr} {ws : List V} (s : SOk G0 H0 G H σ ρ (some (i, ds))) (hp : σ[i]? = some (some (.ref p))) (x : Ext G H G' H') (hd : DxAll G' ws es) : SOk G0 H0 G' (upd H' p (.lst ws)) σ ρ (some (i, es)) := by
  obtain ⟨q, vs, h1, h2, h3, h4, h5⟩ := (s.step x).own i ds rfl
  rw [hp] at h1
  cases h1
  refine ⟨⟨fun b o hb => ?_, same_updR x.gh h4, (s.ext.trans x).new⟩, s.len, (s.step x).env, fun j fs hj => ?_⟩
  · rw [upd_ne (ne_of_none hb h5)]
    exact (s.ext.trans x).hh _ _ hb
  · cases hj
    exact ⟨p, ws, hp, upd_same, hd, h4, h5⟩
theorem s1_append {i : Nat} {x : Str} {ds : List Da} {p1 p2 p3 : Pos} (hi : X.N[i]? = some x) (hz : ds.length ≤ 100000) (h : PV X e ρ d) (hv : Vis X.env.scope x := by first | exact Or.inl rfl | exact Or.inr (Or.inl rfl)) (hb : attributeBase (.Name x p1) "append" X.env (eval (.Name x p1) X.env) = eval (.Name x p1) X.env := by rfl)
    (hfew : ((backTo p3 (starEach [e] X.env)).all (fun x => !x.1) && (backToKw p3 (keywordEach [] X.env)).all (fun x => x.1.isSome)
      && decide ([e].length + ([] : List Keyword).length + (if ([] : List Keyword).isEmpty then 0 else 1) < 30)) = true := by rfl) (hline : (p2.endLine == p3.line) = true := by rfl)
    (h1 : starEach [e] X.env = (false, eval e X.env) :: starEach [] X.env := by rfl) (h2 : (backTo p3 (starEach [] X.env)).any (·.1) = false := by rfl) (hs : swapsWith (.Call (.Attribute (.Name x p1) "append" p2) [e] [] p3) none pos.line X.env = pure false := by rfl)
    (hd1 : (x == ("__debug__" : Str)) = false := by decide) (hd2 : (x == ("__classdict__" : Str)) = false := by decide) :
    S1 X (.Expr (.Call (.Attribute (.Name x p1) "append" p2) [e] [] p3) pos) ρ (some (i, ds)) (Is ρ (some (i, ds ++ [d]))) R :=
  PS.s1 (ps_expr (pe_bm PySem.F.plainAttrs_list PySem.F.slot_list_append PySem.F.type_list_append mt_append (pe_var hi hv hd1 hd2) (pa_w [e]) hb hfew hline h1 h2) hs) fun G0 H0 G H σ D s hq hr => by
    obtain ⟨p, vs, k1, k2, k3, k4, k5⟩ := s.own i ds rfl
    refine ⟨.ref p, k1, .inl ⟨rfl, _, SqL.of k2⟩, (pav_cons h pav_nil h1) σ G H _ s.ext.gh s.len s.env fun ws G' H' x dx => ?_⟩
    cases dx with
    | cons d1 d2 =>
      cases d2
      refine ⟨p, vs, _, rfl, rfl, x.hh _ _ k2, by rw [k3.length, sizeLine_eq]; omega, ?_⟩
      exact hq σ G' _ _ _ ⟨rfl, rfl⟩ (s.change k1 x ((DxAll.mono (x.gg s.ext.gh) _ k3).append (.cons d1 .nil))) (x.gg s.ext.gh)
theorem s1_extend {i : Nat} {x : Str} {ds es : List Da} {p1 p2 p3 : Pos} (hi : X.N[i]? = some x) (hz : ds.length + es.length ≤ 100000) (h : PV X e ρ (.list es)) (hv : Vis X.env.scope x := by first | exact Or.inl rfl | exact Or.inr (Or.inl rfl)) (hb : attributeBase (.Name x p1) "extend" X.env (eval (.Name x p1) X.env) = eval (.Name x p1) X.env := by rfl)
    (hfew : ((backTo p3 (starEach [e] X.env)).all (fun x => !x.1) && (backToKw p3 (keywordEach [] X.env)).all (fun x => x.1.isSome)
      && decide ([e].length + ([] : List Keyword).length + (if ([] : List Keyword).isEmpty then 0 else 1) < 30)) = true := by rfl) (hline : (p2.endLine == p3.line) = true := by rfl)
    (h1 : starEach [e] X.env = (false, eval e X.env) :: starEach [] X.env := by rfl) (h2 : (backTo p3 (starEach [] X.env)).any (·.1) = false := by rfl) (hs : swapsWith (.Call (.Attribute (.Name x p1) "extend" p2) [e] [] p3) none pos.line X.env = pure false := by rfl)
    (hd1 : (x == ("__debug__" : Str)) = false := by decide) (hd2 : (x == ("__classdict__" : Str)) = false := by decide) :
    S1 X (.Expr (.Call (.Attribute (.Name x p1) "extend" p2) [e] [] p3) pos) ρ (some (i, ds)) (Is ρ (some (i, ds ++ es))) R :=
  PS.s1 (ps_expr (pe_bm PySem.F.plainAttrs_list PySem.F.slot_list_extend PySem.F.type_list_extend mt_extend (pe_var hi hv hd1 hd2) (pa_w [e]) hb hfew hline h1 h2) hs) fun G0 H0 G H σ D s hq hr => by
    obtain ⟨p, vs, k1, k2, k3, k4, k5⟩ := s.own i ds rfl
    refine ⟨.ref p, k1, .inl ⟨rfl, _, SqL.of k2⟩, (pav_cons h pav_nil h1) σ G H _ s.ext.gh s.len s.env fun ws G' H' x dx => ?_⟩
    cases dx with
    | cons d1 d2 =>
      cases d2
      cases d1 with
      | lst m1 m2 =>
        refine ⟨p, _, vs, _, rfl, rfl, x.hh _ _ k2, x.gh _ _ m1, by rw [k3.length, m2.length, sizeLine_eq]; omega, ?_⟩
        exact hq σ G' _ _ _ ⟨rfl, rfl⟩ (s.change k1 x ((DxAll.mono (x.gg s.ext.gh) _ k3).append m2)) (x.gg s.ext.gh)
/-- for tg in iter: body -/
theorem s1_for {tg iter : Expr} {body : List Stmt} {ds : List Da} {g : TG} {own : List Nat} (P : Nat → Prop) (ρs : Nat → Rho) (ωs : Nat → Own) (ρt : Nat → Rho) (hc : X.calm = true) (hi : PIV X tg iter ρ ds) (hg : PG X tg g) (hp : PassesOwn (model X.prog X.w) X.A X.env X.xe)
    (h0 : RLe (ρs 0) ρ) (hlen : ∀ k, (ρs k).length = ρ.length) (hlt : ∀ k, (ρt k).length = ρ.length) (hω : ω = ωs 0) (hP : P 0) (hd : ∀ k d, ds[k]? = some d → TgOk g (ρs k) d (ρt k) own) (hown : ∀ k i es, ωs k = some (i, es) → i ∉ own)
    (hb : ∀ k d, ds[k]? = some d → P k → SJ X body (ρt k) (ωs k) (fun ρ' ω' => P (k + 1) ∧ RLe (ρs (k + 1)) ρ' ∧ ρ'.length = ρ.length ∧ ω' = ωs (k + 1)) R) (hs : ∀ x, foldedSetIterable iter X.env x = pure x := by intro _; rfl) :
    S1 X (.For tg iter body [] pos) ρ ω (fun ρ' ω' => P ds.length ∧ ρ' = ρs ds.length ∧ ω' = ωs ds.length) R :=
  PS.s1 (ps_for hp hc (pi_w tg iter) hg (pss_w body) hs) fun G0 H0 G H σ D s hn hr => hi σ G H _ s.ext.gh s.len s.env fun J G1 H1 x1 wk => by
    refine ⟨fun i m σ2 H2 => i ≤ ds.length ∧ m = ds.length - i ∧ P i ∧ ∃ G2, SOk G0 H0 G2 H2 σ2 (ρs i) (ωs i) ∧ Same G1 G2, ⟨ds.length, Nat.zero_le _, rfl, hP, G1, hω ▸ (s.step x1).le h0 (hlen 0), Same.refl G1⟩, ?_⟩
    rintro i m σ2 H2 ⟨hi2, rfl, hPi, G2, s2, g2⟩
    by_cases hlt2 : i < ds.length
    · refine .inr ⟨wk.go G2 H2 g2 s2.ext.gh i hlt2, fun σ' H' => P (i + 1) ∧ ∃ G3, SOk G0 H0 G3 H' σ' (ρs (i + 1)) (ωs (i + 1)) ∧ Same G1 G3, fun σ' H' ⟨p1, G3, q1, q2⟩ => ⟨ds.length - (i + 1), by omega, hlt2, rfl, p1, G3, q1, q2⟩, fun x H' hy => ?_⟩
      have hdi : ds[i]? = some ds[i] := List.getElem?_eq_getElem hlt2
      obtain ⟨G3, x3, dx⟩ := wk.yld G2 H2 g2 s2.ext.gh i _ x H' hdi hy
      have s3 := s2.step x3
      refine hd i _ hdi σ2 G3 H' x _ x3.gh s3.len s3.env dx fun σ' hl' e' hw' => ?_
      have s4 : SOk G0 H0 G3 H' σ' (ρt i) (ωs i) := ⟨s3.ext, by rw [hl', hlt i, ← hlen i]; exact s3.len, e', fun j es hj => by
        obtain ⟨p, vs, k1, k2⟩ := s3.own j es hj
        refine ⟨p, vs, ?_, k2⟩
        have no := hown i j es hj
        have keep : ∀ (τ : St) (l : List Nat), j ∉ l → (wipe τ l)[j]? = τ[j]? := by
          intro τ l
          induction l with
          | nil => intro _; rfl
          | cons u us ih =>
            intro hu
            unfold wipe
            rw [List.getElem?_set_ne (fun z => hu (by rw [z]; exact List.mem_cons_self)), ih fun z => hu (List.mem_cons_of_mem _ z)]
        rw [← keep σ' own no, hw', keep σ2 own no]
        exact k1⟩
      refine hb i _ hdi hPi G0 H0 G3 H' σ' _ s4 (fun σ5 G5 H5 ρ5 ω5 n5 s5 g5 => ?_) (fun v G5 H5 d5 r5 x5 dx5 => hr v G5 H5 d5 r5 x5 dx5)
      obtain ⟨p1, p2, p3, rfl⟩ := n5
      exact ⟨p1, G5, s5.le p2 (by rw [hlen, p3]), g2.trans ((x3.gg s2.ext.gh).trans g5)⟩
    · have ei : i = ds.length := by omega
      subst ei
      exact .inl ⟨wk.stop G2 H2 g2 s2.ext.gh, hn σ2 G2 H2 _ _ ⟨hPi, rfl, rfl⟩ s2 ((x1.gg s.ext.gh).trans g2)⟩
end

/-! ### a def keeps its promise -/
section
variable {P : Program} {w : World} {K : PySem.W.Frag} {mg : Str → Option Value} {base : Heap}
theorem fn_ok {x qual : Str} {st : Stmt} {f : Addr} {fd : FuncData} {N ps : List Str} {k : Nat} (Fr : List Da → Da → Prop) (F : Fun K x qual st f fd) (S : FnScope N ps (defScope st)) (hN : ps.length ≤ N.length) (hl : ∀ ds r, Fr ds r → ds.length = ps.length)
    (body : ∀ (cdv : Value) (A : Around) (outer : List Env) (s : Shared) (H : Hp) (E : XK) (ds : List Da) (r : Da), Room k (A.deeper (envOfC qual (defScope st) s.heap.objs.size f cdv)) → Fr ds r →
      SJ (cxOf CX0 P w K mg base N qual (defScope st) f cdv A outer s H E).nox (defBody st) (ds.map some ++ List.replicate (N.length - ds.length) none) none (fun _ _ => False) (fun d => d = r)) :
    FnOk P w K mg base CX0 (k + 1) f fd ps (spD Fr) := by
  refine F.ok S (fun vs H Q E h => ?_) (fun cdv A outer s H vs Q E hr h => ?_)
  · obtain ⟨G, ds, r, _, hd, hf, _⟩ := h
    rw [hd.length]
    exact hl ds r hf
  · obtain ⟨G, ds, r, sg, hd, hf, q⟩ := h
    have e1 := hl ds r hf
    have e2 := hd.length
    refine ⟨_, pss_w _, body cdv A outer s H E ds r hr hf G H G H (L2.start N vs) _ ⟨.refl sg, ?_, fun i d hi => ?_, fun i es z => nomatch z⟩ (fun _ _ _ _ _ n => n.elim) (fun v G' H' d hd' x dx => by
      have e : d = r := hd'
      subst e
      exact q v G' H' x dx)⟩
    · unfold L2.start
      rw [List.length_append, List.length_append, List.length_map, List.length_map, List.length_replicate, List.length_replicate]
      omega
    · unfold L2.start
      by_cases hlt : i < ds.length
      · rw [List.getElem?_append_left (by rw [List.length_map]; exact hlt), List.getElem?_map] at hi
        have hdi : ds[i]? = some d := by
          cases q : ds[i]? with
          | none => rw [q] at hi; cases hi
          | some d' =>
            rw [q] at hi
            have : some (some d') = some (some d) := hi
            cases this
            rfl
        obtain ⟨v, hv, hx⟩ := hd.get hdi
        exact ⟨v, by rw [List.getElem?_append_left (by rw [List.length_map]; omega), List.getElem?_map, hv]; rfl, hx⟩
      · rw [List.getElem?_append_right (by rw [List.length_map]; omega), List.getElem?_replicate] at hi
        split at hi <;> cases hi
theorem Room.u70 {k : Nat} {A : Around} (r : Room k A) : A.units + 70 < cLine := by have := r.un; omega
end
end K42
/-! ## KLay6 -/
namespace K42
open PySem PySem.Spec L2
open PyProof.Rows hiding St
theorem rl_nil : RLe [] [] := RLe.refl []
theorem rl_same {a : Option Da} {as bs : Rho} (h : RLe as bs) : RLe (a :: as) (a :: bs) := fun i d e => by
  cases i with
  | zero => exact e
  | succ i => exact h i d e
theorem rl_none {b : Option Da} {as bs : Rho} (h : RLe as bs) : RLe (none :: as) (b :: bs) := fun i d e => by
  cases i with
  | zero => cases e
  | succ i => exact h i d e
section
variable {X : Cx} {e : Expr} {es : List Expr} {ρ : Rho} {ω : Own} {d : Da} {ds : List Da} {p pos : Pos} {N : Rho → Own → Prop} {R : Da → Prop}
/-- for x in iter: the data are those of xs -/
theorem s1_forX {α : Type} {x : Str} {p1 : Pos} {iter : Expr} {body : List Stmt} {xs : List α} {en : α → Da} {i : Nat} (P : Nat → Prop) (ρs : Nat → Rho) (ωs : Nat → Own) (hc : X.calm = true) (hn : X.N.Nodup) (hx : X.N[i]? = some x) (hi : PIV X (.Name x p1) iter ρ (xs.map en)) (hp : PassesOwn (model X.prog X.w) X.A X.env X.xe)
    (h0 : RLe (ρs 0) ρ) (hlen : ∀ k, (ρs k).length = ρ.length) (hω : ω = ωs 0) (hP : P 0) (hown : ∀ k j es, ωs k = some (j, es) → j ≠ i)
    (hb : ∀ k a, xs[k]? = some a → P k → SJ X body ((ρs k).set i (some (en a))) (ωs k) (fun ρ' ω' => P (k + 1) ∧ RLe (ρs (k + 1)) ρ' ∧ ρ'.length = ρ.length ∧ ω' = ωs (k + 1)) R)
    (hl : Loc X.env.scope x := by first | exact Or.inl rfl | exact Or.inr rfl) (hf : X.fn x = true ∨ X.env.scope.names.lookup x = some .local := by first | exact .inl rfl | exact .inr rfl | assumption) (hs : ∀ x, foldedSetIterable iter X.env x = pure x := by intro _; rfl) :
    S1 X (.For (.Name x p1) iter body [] pos) ρ ω (fun ρ' ω' => P xs.length ∧ ρ' = ρs xs.length ∧ ω' = ωs xs.length) R := by
  have h := s1_for (pos := pos) (R := R) (body := body) (g := gName i) (own := [i]) P ρs ωs (fun k => match xs[k]? with | some a => (ρs k).set i (some (en a)) | none => ρs k) hc hi (pg_name hn hx hl hf) hp h0 hlen
    (fun k => by split <;> first | (rw [List.length_set]; exact hlen k) | exact hlen k) hω hP (fun k d hd => ?_) (fun k j es hj hm => hown k j es hj (by simpa using hm)) (fun k d hd hk => ?_) hs
  · rw [List.length_map] at h
    exact h
  · rw [List.getElem?_map] at hd
    cases ha : xs[k]? with
    | none => rw [ha] at hd; cases hd
    | some a =>
      rw [ha] at hd
      have e : en a = d := Option.some.inj hd
      subst e
      exact tg_name List.mem_cons_self
  · rw [List.getElem?_map] at hd
    cases ha : xs[k]? with
    | none => rw [ha] at hd; cases hd
    | some a => exact hb k a ha hk
/-- for x, y in iter -/
theorem s1_forX2 {α : Type} {x y : Str} {p1 p2 pt : Pos} {kt : Nat} {iter : Expr} {body : List Stmt} {xs : List α} {en en' : α → Da} {i j : Nat} (P : Nat → Prop) (ρs : Nat → Rho) (ωs : Nat → Own) (hc : X.calm = true) (hn : X.N.Nodup) (hx : X.N[i]? = some x) (hy : X.N[j]? = some y) (hi : PIV X (.Tuple [.Name x p1, .Name y p2] kt pt) iter ρ (xs.map fun a => .tuple false [en a, en' a])) (hp : PassesOwn (model X.prog X.w) X.A X.env X.xe)
    (h0 : RLe (ρs 0) ρ) (hlen : ∀ k, (ρs k).length = ρ.length) (hω : ω = ωs 0) (hP : P 0) (hown : ∀ k l es, ωs k = some (l, es) → l ≠ i ∧ l ≠ j)
    (hb : ∀ k a, xs[k]? = some a → P k → SJ X body (((ρs k).set i (some (en a))).set j (some (en' a))) (ωs k) (fun ρ' ω' => P (k + 1) ∧ RLe (ρs (k + 1)) ρ' ∧ ρ'.length = ρ.length ∧ ω' = ωs (k + 1)) R)
    (hg : PG X (.Tuple [.Name x p1, .Name y p2] kt pt) (gPair X.K i j)) (hs : ∀ x, foldedSetIterable iter X.env x = pure x := by intro _; rfl) :
    S1 X (.For (.Tuple [.Name x p1, .Name y p2] kt pt) iter body [] pos) ρ ω (fun ρ' ω' => P xs.length ∧ ρ' = ρs xs.length ∧ ω' = ωs xs.length) R := by
  have h := s1_for (pos := pos) (R := R) (body := body) (g := gPair X.K i j) (own := [i, j]) P ρs ωs (fun k => match xs[k]? with | some a => ((ρs k).set i (some (en a))).set j (some (en' a)) | none => ρs k) hc hi hg hp h0 hlen
    (fun k => by split <;> first | (rw [List.length_set, List.length_set]; exact hlen k) | exact hlen k) hω hP (fun k d hd => ?_) (fun k l es hj hm => by
      rcases List.mem_cons.mp hm with e | hm
      · exact (hown k l es hj).1 e
      · exact (hown k l es hj).2 (by simpa using hm)) (fun k d hd hk => ?_) hs
  · rw [List.length_map] at h
    exact h
  · rw [List.getElem?_map] at hd
    cases ha : xs[k]? with
    | none => rw [ha] at hd; cases hd
    | some a =>
      rw [ha] at hd
      have e : Da.tuple false [en a, en' a] = d := Option.some.inj hd
      subst e
      exact tg_pair List.mem_cons_self (List.mem_cons_of_mem _ List.mem_cons_self)
  · rw [List.getElem?_map] at hd
    cases ha : xs[k]? with
    | none => rw [ha] at hd; cases hd
    | some a => exact hb k a ha hk
/-- [elt for x in iter if test] -/
theorem pv_lcX {α : Type} {elt iter : Expr} {ifs : List Expr} {scope : Scope} {own : List (Str × Nat)} {xs : List α} {en : α → Da} {x : Str} {p1 : Pos} (i : Nat) (p : α → Bool) (f : α → Da) (hc : X.calm = true) (hN : X.N.Nodup) (hi : PIV X (.Name x p1) iter ρ (xs.map en)) (ok : BlkOk X.N X.env.scope scope own)
    (hm : i ∈ own.map (·.2)) (hg : ∀ s H C cl fp, PG (X.blk s H scope (compEnvC scope cl C X.env) fp) (.Name x p1) (gName i))
    (ht : ∀ a ∈ xs, ∀ s H C cl fp, PTsV (X.blk s H scope (compEnvC scope cl C X.env) fp) ifs ((wipeR ρ (own.map (·.2))).set i (some (en a))) (p a))
    (he : ∀ a ∈ xs, p a = true → ∀ s H C cl fp, PV (X.blk s H scope (compEnvC scope cl C X.env) fp) elt ((wipeR ρ (own.map (·.2))).set i (some (en a))) (f a)) (hs : ∀ x, foldedSetIterable iter X.env x = pure x := by intro _; rfl) :
    PV X (.ListComp elt [⟨.Name x p1, iter, ifs, 0⟩] scope pos) ρ (.list ((xs.filter p).map f)) :=
  pv_lc (own := own) (g := gName i) p f (fun a => (wipeR ρ (own.map (·.2))).set i (some (en a))) hc hN hi ok hg (fun a _ => tg_name hm) (fun a _ => by rw [List.length_set, wipeR_length]) ht he hs
/-- [elt for x in iter] -/
theorem pv_lcX0 {α : Type} {elt iter : Expr} {scope : Scope} {own : List (Str × Nat)} {xs : List α} {en : α → Da} {x : Str} {p1 : Pos} (i : Nat) (f : α → Da) (hc : X.calm = true) (hN : X.N.Nodup) (hi : PIV X (.Name x p1) iter ρ (xs.map en)) (ok : BlkOk X.N X.env.scope scope own)
    (hm : i ∈ own.map (·.2)) (hg : ∀ s H C cl fp, PG (X.blk s H scope (compEnvC scope cl C X.env) fp) (.Name x p1) (gName i))
    (he : ∀ a ∈ xs, ∀ s H C cl fp, PV (X.blk s H scope (compEnvC scope cl C X.env) fp) elt ((wipeR ρ (own.map (·.2))).set i (some (en a))) (f a)) (hs : ∀ x, foldedSetIterable iter X.env x = pure x := by intro _; rfl) :
    PV X (.ListComp elt [⟨.Name x p1, iter, [], 0⟩] scope pos) ρ (.list (xs.map f)) := by
  have h := pv_lcX (pos := pos) (elt := elt) i (fun _ => true) f hc hN hi ok hm hg (fun a _ _ _ _ _ _ => .inl ⟨rfl, rfl⟩) (fun a ha _ => he a ha) hs
  rw [List.filter_eq_self.mpr (fun _ _ => rfl)] at h
  exact h
/-- [elt for x, y in iter if test] -/
theorem pv_lcX2 {α : Type} {elt iter : Expr} {ifs : List Expr} {scope : Scope} {own : List (Str × Nat)} {xs : List α} {en en' : α → Da} {x y : Str} {p1 p2 pt : Pos} {kt : Nat} (i j : Nat) (p : α → Bool) (f : α → Da) (hc : X.calm = true) (hN : X.N.Nodup) (hi : PIV X (.Tuple [.Name x p1, .Name y p2] kt pt) iter ρ (xs.map fun a => .tuple false [en a, en' a])) (ok : BlkOk X.N X.env.scope scope own)
    (hm : i ∈ own.map (·.2)) (hm2 : j ∈ own.map (·.2)) (hg : ∀ s H C cl fp, PG (X.blk s H scope (compEnvC scope cl C X.env) fp) (.Tuple [.Name x p1, .Name y p2] kt pt) (gPair X.K i j))
    (ht : ∀ a ∈ xs, ∀ s H C cl fp, PTsV (X.blk s H scope (compEnvC scope cl C X.env) fp) ifs (((wipeR ρ (own.map (·.2))).set i (some (en a))).set j (some (en' a))) (p a))
    (he : ∀ a ∈ xs, p a = true → ∀ s H C cl fp, PV (X.blk s H scope (compEnvC scope cl C X.env) fp) elt (((wipeR ρ (own.map (·.2))).set i (some (en a))).set j (some (en' a))) (f a)) (hs : ∀ x, foldedSetIterable iter X.env x = pure x := by intro _; rfl) :
    PV X (.ListComp elt [⟨.Tuple [.Name x p1, .Name y p2] kt pt, iter, ifs, 0⟩] scope pos) ρ (.list ((xs.filter p).map f)) :=
  pv_lc (own := own) (g := gPair X.K i j) p f (fun a => ((wipeR ρ (own.map (·.2))).set i (some (en a))).set j (some (en' a))) hc hN hi ok hg (fun a _ => tg_pair hm hm2) (fun a _ => by rw [List.length_set, List.length_set, wipeR_length]) ht he hs
theorem pts1 {c : Expr} {b : Bool} (h : PTV X c ρ b) : PTsV X [c] ρ b := .inr ⟨c, rfl, h⟩
/-- y = [elt for x in iter if test], y a local name -/
theorem s1_lcX {α : Type} {y : Str} {py p2 : Pos} {elt iter : Expr} {ifs : List Expr} {scope : Scope} {own : List (Str × Nat)} {xs : List α} {en : α → Da} {x : Str} {p1 : Pos} {t : Nat} (i : Nat) (q : α → Bool) (f : α → Da) (hc : X.calm = true) (hN : X.N.Nodup) (hy : X.N[t]? = some y) (hω : notAt ω t) (hyl : X.env.scope.names.lookup y = some .local)
    (hsw : swapsWith (.ListComp elt [⟨.Name x p1, iter, ifs, 0⟩] scope p2) (some (.Name y py)) pos.line X.env = pure true) (hi : PIV X (.Name x p1) iter ρ (xs.map en)) (ok : BlkOk X.N X.env.scope scope own)
    (hm : i ∈ own.map (·.2)) (hg : ∀ s H C cl fp, PG (X.blk s H scope (compEnvC scope cl C X.env) fp) (.Name x p1) (gName i))
    (ht : ∀ a ∈ xs, ∀ s H C cl fp, PTsV (X.blk s H scope (compEnvC scope cl C X.env) fp) ifs ((wipeR ρ (own.map (·.2))).set i (some (en a))) (q a))
    (he : ∀ a ∈ xs, q a = true → ∀ s H C cl fp, PV (X.blk s H scope (compEnvC scope cl C X.env) fp) elt ((wipeR ρ (own.map (·.2))).set i (some (en a))) (f a)) (hs : ∀ x, foldedSetIterable iter X.env x = pure x := by intro _; rfl) :
    S1 X (.Assign [.Name y py] (.ListComp elt [⟨.Name x p1, iter, ifs, 0⟩] scope p2) pos) ρ ω (Is (ρ.set t (some (.list ((xs.filter q).map f)))) ω) R :=
  s1_setLc (own := own) (g := gName i) q f (fun a => (wipeR ρ (own.map (·.2))).set i (some (en a))) hc hN hy hω hyl hsw hi ok hg (fun a _ => tg_name hm) (fun a _ => by rw [List.length_set, wipeR_length]) ht he hs
end
end K42
/-! ## KIter -/
/-! enumerate of a tuple, zip of a tuple and a list -/
namespace PySem
theorem kmeets_enumerate {v : Value} {o : Obj} {H : Heap → Prop} (B : Begins v o H) :
    Meets (Builtin.«enumerate.__new__» ⟨[.type "enumerate", v], []⟩) (fun _ R s => H s.heap ∧
      R (.ok (.ret (.ref (s.heap.push o).objs.size))) { s with heap := (s.heap.push o).push { cls := .type "enumerate", data := .fields #[.none, .bool false, .ref s.heap.objs.size, rawInt 0, .none, .none] } }) :=
  .of_wp fun prog w A R s h => by
    obtain ⟨hp, g, d, tk, os⟩ := s; obtain ⟨h1, h⟩ := h
    have hsub := sub_enumerate
    have q1 : ∀ {A' : Around} {E : Value → Shared → Prop} {Q : Value → Shared → Prop}, Q (.ref hp.objs.size) ⟨hp.push o, g, d, tk, os⟩ → wpAny (model prog w) A' (pyIter v) Q E ⟨hp, g, d, tk, os⟩ :=
      fun q => B.iter prog w _ _ ⟨hp, g, d, tk, os⟩ _ h1 q
    wp_walk using q1
    refine wpAny_stack_any fun st => wpAny_pure ?_
    split
    · rename_i c _ _ _ _ _
      cases (c == Value.type "enumerate")
      · wp_walk using q1
        exact ⟨_, rfl, h⟩
      · wp_walk using q1
        exact ⟨_, rfl, h⟩
    · wp_walk using q1
      exact ⟨_, rfl, h⟩
theorem kenum_begins {prog : Program} {w : World} {A : Around} {E : Value → Shared → Prop} {s : Shared} {v : Value} {o : Obj} {H : Heap → Prop} {Q : Value → Shared → Prop} (B : Begins v o H) (h1 : H s.heap)
    (h : ∀ h', IsEnum h' (s.heap.objs.size + 1) s.heap.objs.size 0 .none → h'.get? s.heap.objs.size = some o → (∀ b o, s.heap.get? b = some o → h'.get? b = some o) → Q (.ref (s.heap.objs.size + 1)) { s with heap := h' }) :
    wpAny (model prog w) A (call (.type "enumerate") [v]) Q E s := by
  refine callType_new F.called_enumerate (by decide) (F.typeCall_enumerate_1 _) (F.newCall_enumerate_1 _) (fun obj => F.args_object_init_2 obj _) F.entry_enumerate_new (kmeets_enumerate B) ⟨h1, ?_⟩
  have hz : (s.heap.push o).objs.size = s.heap.objs.size + 1 := Heap.size_push ..
  show _ ∧ _
  rw [hz]
  have he : IsEnum ((s.heap.push o).push { cls := .type "enumerate", data := .fields #[.none, .bool false, .ref s.heap.objs.size, rawInt 0, .none, .none] }) (s.heap.objs.size + 1) s.heap.objs.size 0 .none := by
    have := Heap.get?_push_size (s.heap.push o) (o := { cls := .type "enumerate", data := .fields #[.none, .bool false, .ref s.heap.objs.size, rawInt 0, .none, .none] }) rfl
    rw [hz] at this
    exact this
  exact ⟨⟨_, he, rfl⟩, h _ he (Heap.get?_push_of_some _ (Heap.get?_push_size _ B.free)) fun b o x => Heap.get?_push_of_some _ (Heap.get?_push_of_some _ x)⟩
end PySem

namespace K42
open PySem PySem.Spec L2
open PyProof.Rows hiding St

/-- an iterator of new pairs, by what the library says of its next -/
theorem turn_goesN {P : Program} {w : World} {K : PySem.W.Frag} {tg : Expr} {J : It} {e : Addr} {fp : List Addr} {tn : Nat → Heap → Prop} (mem : e ∈ fp)
    (obj : ∀ i h, tn i h → ∀ b ∈ fp, ∃ o, h.get? b = some o ∧ ∀ v, o.data ≠ .cell v)
    (keep : ∀ i h h', tn i h → (∀ b ∈ fp, ∀ o, h.get? b = some o → h'.get? b = some o) → tn i h')
    (self : ∀ (A : Around) (i : Nat) (s : Shared) (Q : Value → Shared → Prop) (E : Value → Shared → Prop), tn i s.heap → Q (.ref e) s → wpAny (model P w) A (pyIter (.ref e)) Q E s)
    (go : ∀ (X : Cx), X.prog = P → X.w = w → X.K = K → X.calm = true → ∀ (i : Nat) (pins : List (Addr × Obj)) (s : Shared) (σ : St) (H : Hp), Inv X pins σ H s → (∀ b ∈ fp, FpOk X pins H b) → tn i s.heap → J.go i H →
      ∃ fp' wr n Y S, GoesN P w X.A tg e fp' wr n Y S ∧ (∀ b ∈ wr, b ∈ fp) ∧ i < n ∧ S i s.heap ∧ ∀ v h', Y i s.heap v h' → S (i + 1) h' → tn (i + 1) h' ∧ ∃ T x y ux uy, v = .ref T ∧ s.heap.objs.size ≤ T ∧ h'.IsTuple T #[ux, uy] ∧ RelV x ux ∧ RelV y uy ∧ J.yld i H (.ref T) (upd H T (.tup [x, y])))
    (stop : ∀ (X : Cx), X.prog = P → X.w = w → X.K = K → X.calm = true → ∀ (i : Nat) (pins : List (Addr × Obj)) (s : Shared) (σ : St) (H : Hp), Inv X pins σ H s → (∀ b ∈ fp, FpOk X pins H b) → tn i s.heap → J.stop i H →
      ∀ E, wpAny (model P w) X.A (pyNext (.ref e)) (fun r s1 => r = none ∧ Inv X pins σ H s1) E s) : Turn P w K tg J fp e tn where
  mem := mem
  obj := obj
  keep := keep
  self := self
  done := fun X hP hw hK hc i pins s σ H E I hf st hg => stop X hP hw hK hc i pins s σ H I hf st hg E
  item := fun X hP hw hK hc i pins s σ H E I hf st hg => by
    obtain ⟨fp', wr, n, Y, S, W, hwr, hi, hS, hY⟩ := go X hP hw hK hc i pins s σ H I hf st hg
    refine W.goes i s _ E hi hS fun v h' tk y1 s1 k1 _ => ?_
    obtain ⟨t1, T, x, y, ux, uy, rfl, hT, hTup, rx, ry, hyl⟩ := hY v h' y1 s1
    have hf' : ∀ b ∈ wr, FpOk X pins H b := fun b hb => hf b (hwr b hb)
    refine ⟨.ref T, upd H T (.tup [x, y]), I.turnedNew (t' := tk) k1 hf' hT ⟨by show 2 ≤ sizeLine; decide, [ux, uy], .cons rx (.cons ry .nil), hTup⟩, rfl, hyl, t1, fun b hb => ?_⟩
    have hlt : b < s.heap.objs.size := by
      obtain ⟨o, ho, _⟩ := obj i s.heap st b hb
      exact Heap.lt_size ho
    rw [upd_ne (Nat.ne_of_lt (Nat.lt_of_lt_of_le hlt hT))]
    exact (hf b hb).1

/-- the tuple at a, each item in a new pair with its place -/
def IteT (K : PySem.W.Frag) (a : Addr) : It :=
  ⟨fun i H => ∃ (xs : List V) (x : V), SqT K H a xs ∧ xs[i]? = some x, fun i H v H' => ∃ T x, v = .ref T ∧ H T = none ∧ H' = upd H T (.tup [.int (i : Nat), x]) ∧ ∀ xs, SqT K H a xs → xs[i]? = some x, fun i H => ∃ xs : List V, SqT K H a xs ∧ i = xs.length⟩
theorem at_toArray {its : List Value} {i : Nat} {u : Value} (h : its.toArray[i]? = some u) : its[i]? = some u := by
  rw [List.getElem?_toArray] at h
  exact h
theorem rel_at {xs : List V} {its : List Value} (rv : Vals xs its) {i : Nat} {x : V} {u : Value} (hx : xs[i]? = some x) (hu : its[i]? = some u) : RelV x u := by
  obtain ⟨u', h1, h2⟩ := rv.get hx
  rw [hu] at h1
  cases h1
  exact h2
theorem turn_enumT {P : Program} {w : World} {K : PySem.W.Frag} {elts : List Expr} {kk : Nat} {tpos : Pos} (a e it : Addr) :
    Turn P w K (.Tuple elts kk tpos) (IteT K a) [e, it] e (fun i h => (∃ old, IsEnum h e it (0 + ((i : Nat) : Int)) old) ∧ h.IsTupleIter it a i ∧ e ≠ it) :=
  turn_goesN (by simp)
    (fun i h st b hb => by
      obtain ⟨⟨old, he⟩, ⟨o, ho, hc, hd⟩, _⟩ := st
      rcases List.mem_cons.mp hb with z | hb
      · rw [z]; exact ⟨_, he, fun v q => nomatch q⟩
      · rw [List.mem_singleton.mp hb]; exact ⟨o, ho, fun v q => by rw [hd] at q; cases q⟩)
    (fun i h h' st k => by
      obtain ⟨⟨old, he⟩, hi, hne⟩ := st
      obtain ⟨o, ho, c⟩ := hi
      exact ⟨⟨old, k e (by simp) _ he⟩, ⟨o, k it (by simp) o ho, c⟩, hne⟩)
    (fun A i s Q E st h => by
      obtain ⟨⟨_, he⟩, _⟩ := st
      exact wpAny_pyIter_enum he h)
    (fun X hP hw hK hc i pins s σ H I hf st hg => by
      subst hP hw hK
      obtain ⟨⟨old, he⟩, hit, hne⟩ := st
      obtain ⟨xs, x, hq, hx⟩ := hg
      obtain ⟨its, rv, p, hz⟩ := I.tuple hq
      have tracked : ∀ b ∈ [e, it], a ≠ b := fun b hb z => by
        subst z
        have h0 := (hf a hb).1
        have hbase : ∀ o, X.base.get? a = some o → False := fun o ho => by
          have hb' := (hf a hb).2.2.2.1
          rcases hb' with q | q
          · exact I.ok.noex a o ho q
          · exact absurd (Nat.lt_of_lt_of_le (Heap.lt_size (I.ok.bs a o ho).1) q) (Nat.lt_irrefl _)
        rcases hq with (h | ⟨o, h⟩) | ⟨o, _, _, hk, _⟩
        · rw [h0] at h; cases h
        · rw [h0] at h; cases h
        · exact hbase o (I.ok.mod.kin a o hk)
      have W := GoesN.enumFrom (elts := elts) (x1 := kk) (pos := tpos) 0 (Draws.tuple (prog := X.prog) (w := X.w) (A := X.A.in1) (I.ok.hd hc) it a (tracked it (by simp)) its.toArray) e hne
        (fun z => by
          rcases List.mem_cons.mp z with z | z
          · exact hne z
          · exact tracked e (by simp) (List.mem_singleton.mp z).symm) (by simp)
      refine ⟨_, _, _, _, _, W, fun b hb => hb, ?_, ⟨⟨old, he⟩, hit, p⟩, fun v h' y s1 => ?_⟩
      · rw [List.size_toArray, ← rv.length]
        exact (List.getElem?_eq_some_iff.mp hx).1
      · obtain ⟨T, t, u, rfl, hT, hu, hTup⟩ := y
        obtain ⟨⟨old', he'⟩, hit', _⟩ := s1
        have e0 : (0 : Int) + ((i : Nat) : Int) = ((i : Nat) : Int) := Int.zero_add _
        refine ⟨⟨⟨old', he'⟩, hit', hne⟩, T, .int (i : Nat), x, _, u, rfl, hT, hTup, ⟨t, by rw [e0]⟩, rel_at rv hx (at_toArray hu), T, x, rfl, I.hok.fresh hT, rfl, fun ys hy => by rw [I.tuple_inj hy hq]; exact hx⟩)
    (fun X hP hw hK hc i pins s σ H I hf st hg E => by
      subst hP hw hK
      obtain ⟨⟨old, he⟩, hit, hne⟩ := st
      obtain ⟨xs, hq, hx⟩ := hg
      obtain ⟨its, rv, p, hz⟩ := I.tuple hq
      have h0 : a ≠ it := fun z => by
        subst z
        obtain ⟨o1, ho1, hc1, _⟩ := hit
        obtain ⟨o2, ho2, hc2, _⟩ := p
        rw [ho1] at ho2
        cases ho2
        rw [hc1] at hc2
        exact absurd hc2 (by decide)
      obtain ⟨f0, f1, f2, f3, f4, f5⟩ := hf it (by simp)
      have hi : i = its.toArray.size := by rw [List.size_toArray, ← rv.length]; exact hx
      subst hi
      exact wpAny_pyNext_enum_endD (Draws.tuple (prog := X.prog) (w := X.w) (A := X.A.in1) (I.ok.hd hc) it a h0 its.toArray) he ⟨hit, p⟩ fun h' eb => ⟨rfl, I.turned (t' := s.toks) (fun b o hb q => eb b o hb q) f0 f1 f3 f4 f5⟩)
theorem walkD_enumT {K : PySem.W.Frag} {G : Hp} {a : Addr} {xs : List V} {ds : List Da} {k : Bool} (hz : xs.length ≤ sizeLine) (h : TupAt G k a xs) (hd : DxAll G xs ds) : WalkD (IteT K a) G (pairsD (upto ds.length) ds) := by
  refine walkD_pairs (upto_dx G ds.length) hd (by rw [List.length_map, List.length_range, ← hd.length]; exact hz) (fun H sh i h1 h2 => ?_) (fun H sh => ?_) fun H sh i v H' h1 h2 y => ?_
  · exact ⟨xs, xs[i], (h.mono sh).sqt, List.getElem?_eq_getElem h2⟩
  · refine ⟨xs, (h.mono sh).sqt, ?_⟩
    rw [List.length_map, List.length_range, ← hd.length]
    omega
  · obtain ⟨T, x, y1, y2, y3, y4⟩ := y
    rw [List.length_map, List.length_range] at h1
    exact ⟨T, .int (i : Nat), x, y1, y2, y3, uptoV_get h1, y4 xs (h.mono sh).sqt⟩
section
variable {X : Cx} {e e2 : Expr} {ρ : Rho} {ds : List Da} {pos : Pos}
def iEnumT (K : PySem.W.Frag) (ta : TA) : TI := fun σ H R => ta σ H fun vs H1 => ∃ a xs, vs = [.ref a] ∧ SqT K H1 a xs ∧ R (IteT K a) H1
theorem pi_enumT {e : Expr} {ta : TA} {p tpos : Pos} {elts : List Expr} {kk : Nat} (hg : Gl X "enumerate") (hm : X.mg "enumerate" = none) (ha : PA X [e] ta) (hs : starEach [e] X.env = [(false, eval e X.env)]) :
    PI X (.Tuple elts kk tpos) (.Call (.Name "enumerate" p) [e] [] pos) (iEnumT X.K ta) := by
  refine ⟨fun pins s σ H R I h => ?_⟩
  refine Call_ (ld_blt I hg hm boot_enumerate (PyProof.Rows.callWith_type1 (thn (ha.run pos pins s σ H _ I h) fun us s1 ⟨vs, H1, I1, r1, q1⟩ => ?_) hs rfl))
  obtain ⟨a, xs, rfl, hq, q⟩ := q1
  obtain ⟨its, rv, p', hz⟩ := I1.tuple hq
  rw [Vals.ref1 r1]
  refine kenum_begins (begins_tuple a its.toArray) (show s1.heap.IsTuple a its.toArray from p') fun h' he hit hk => wpAny_pyIter_enum he ?_
  refine ⟨s1.heap.objs.size + 1, [s1.heap.objs.size + 1, s1.heap.objs.size], _, _, H1, rfl, I1.kept (t' := s1.toks) hk, turn_enumT a (s1.heap.objs.size + 1) s1.heap.objs.size, ⟨⟨.none, he⟩, ⟨_, hit, rfl, rfl⟩, Nat.succ_ne_self _⟩, fun b hb => ?_, q⟩
  have hle : s1.heap.objs.size ≤ b := by
    rcases List.mem_cons.mp hb with z | hb
    · rw [z]; exact Nat.le_succ _
    · rw [List.mem_singleton.mp hb]; exact Nat.le_refl _
  exact I1.fpOk hle (I1.hok.fresh hle)
theorem piv_enumT {elts : List Expr} {kk : Nat} {p tpos : Pos} {k : Bool} (h : PV X e ρ (.tuple k ds)) (hg : Gl X "enumerate") (hm : X.mg "enumerate" = none) (hs : starEach [e] X.env = [(false, eval e X.env)] := by rfl) :
    PIV X (.Tuple elts kk tpos) (.Call (.Name "enumerate" p) [e] [] pos) ρ (pairsD (upto ds.length) ds) :=
  PI.piv (pi_enumT hg hm (pa_z [e]) hs) fun σ G H R sg hl he hq => (pav_cons h pav_nil (by first | rfl | (rw [hs]; rfl))) σ G H _ sg hl he fun vs G1 H1 x1 d1 z => by
    cases d1 with
    | cons k1 k2 =>
      cases k2
      cases k1 with
      | tup m1 m2 => exact ⟨_, _, rfl, (m1.mono x1.gh).sqt, hq _ G1 H1 x1 (walkD_enumT (z _ _ (.inr ⟨_, m1.mono x1.gh⟩)) m1 m2)⟩

/-! zip of a tuple and a list -/
def ItzM (K : PySem.W.Frag) (a b : Addr) : It :=
  ⟨fun i H => ∃ (xs ys : List V) (x y : V), SqT K H a xs ∧ SqL K H b ys ∧ xs[i]? = some x ∧ ys[i]? = some y,
    fun i H v H' => ∃ T x y, v = .ref T ∧ H T = none ∧ H' = upd H T (.tup [x, y]) ∧ (∀ xs, SqT K H a xs → xs[i]? = some x) ∧ ∀ ys, SqL K H b ys → ys[i]? = some y,
    fun i H => ∃ xs ys : List V, SqT K H a xs ∧ SqL K H b ys ∧ i = min xs.length ys.length⟩
theorem free_kin {pins : List (Addr × Obj)} {σ : St} {H : Hp} {s : Shared} {b : Addr} (I : Inv X pins σ H s) (hf : FpOk X pins H b) {o : Obj} : X.K.lookup b ≠ some o := fun hk => by
  have ho := I.ok.mod.kin b o hk
  rcases hf.2.2.2.1 with q | q
  · exact I.ok.noex b o ho q
  · exact absurd (Nat.lt_of_lt_of_le (Heap.lt_size (I.ok.bs b o ho).1) q) (Nat.lt_irrefl _)
theorem seqT_ne {pins : List (Addr × Obj)} {σ : St} {H : Hp} {s : Shared} {a b : Addr} {xs : List V} (I : Inv X pins σ H s) (hq : SqT X.K H a xs) (hf : FpOk X pins H b) : a ≠ b := fun z => by
  subst z
  rcases hq with (h | ⟨o, h⟩) | ⟨o, _, _, hk, _⟩
  · rw [hf.1] at h; cases h
  · rw [hf.1] at h; cases h
  · exact free_kin I hf hk
theorem seqL_ne {pins : List (Addr × Obj)} {σ : St} {H : Hp} {s : Shared} {a b : Addr} {xs : List V} (I : Inv X pins σ H s) (hq : SqL X.K H a xs) (hf : FpOk X pins H b) : a ≠ b := fun z => by
  subst z
  rcases hq with (h | ⟨o, h⟩) | ⟨o, _, _, hk, _⟩
  · rw [hf.1] at h; cases h
  · rw [hf.1] at h; cases h
  · exact free_kin I hf hk
end
structure Five (z TI TO i1 i2 : Addr) : Prop where
  a : TI ≠ z
  b : TO ≠ z
  c : TI ≠ TO
  d : TI ≠ i1
  e : TI ≠ i2
  f : TO ≠ i1
  g : TO ≠ i2
  h : z ≠ i1
  i : z ≠ i2
  j : i1 ≠ i2
theorem zsep {z TI TO i1 i2 a b : Addr} (D : Five z TI TO i1 i2) (h : ∀ c ∈ [z, TI, TO, i1, i2], a ≠ c ∧ b ≠ c) : ZipSep2 z TI TO i1 i2 [i1, a] [i2, b] where
  TIz := D.a
  TOz := D.b
  TITO := D.c
  TIi1 := D.d
  mem1 := by simp
  zf1 := by simp only [List.mem_cons, List.not_mem_nil, or_false, not_or]; exact ⟨D.h, (h z (by simp)).1.symm⟩
  Tf1 := by simp only [List.mem_cons, List.not_mem_nil, or_false, not_or]; exact ⟨D.f, (h TO (by simp)).1.symm⟩
  TIi2 := D.e
  mem2 := by simp
  zf2 := by simp only [List.mem_cons, List.not_mem_nil, or_false, not_or]; exact ⟨D.i, (h z (by simp)).2.symm⟩
  Tf2 := by simp only [List.mem_cons, List.not_mem_nil, or_false, not_or]; exact ⟨D.g, (h TO (by simp)).2.symm⟩
  sep1_2 := by simp only [List.mem_cons, List.not_mem_nil, or_false, not_or]; exact ⟨D.j, (h i1 (by simp)).2.symm⟩
  sep2_1 := by simp only [List.mem_cons, List.not_mem_nil, or_false, not_or]; exact ⟨D.j.symm, (h i2 (by simp)).1.symm⟩
theorem turn_zipM {P : Program} {w : World} {K : PySem.W.Frag} {elts : List Expr} {kk : Nat} {tpos : Pos} {a b z TI TO i1 i2 : Addr} (D : Five z TI TO i1 i2) :
    Turn P w K (.Tuple elts kk tpos) (ItzM K a b) [z, TI, TO, i1, i2] z (fun i h => IsZip h z TI TO .none ∧ IsTupOf2 h TI (.ref i1) (.ref i2) ∧ (∃ x y, IsTupOf2 h TO x y) ∧ h.IsTupleIter i1 a i ∧ h.IsListIter i2 b i) :=
  turn_goesN (by simp)
    (fun i h st c hc => by
      obtain ⟨hz, hTI, ⟨x, y, hTO⟩, ⟨o1, e1, _, d1⟩, ⟨o2, e2, _, d2⟩⟩ := st
      simp only [List.mem_cons, List.not_mem_nil, or_false] at hc
      rcases hc with q | q | q | q | q
      · rw [q]; exact ⟨_, hz, fun v q => nomatch q⟩
      · rw [q]; exact ⟨_, hTI, fun v q => nomatch q⟩
      · rw [q]; exact ⟨_, hTO, fun v q => nomatch q⟩
      · rw [q]; exact ⟨o1, e1, fun v q => by rw [d1] at q; cases q⟩
      · rw [q]; exact ⟨o2, e2, fun v q => by rw [d2] at q; cases q⟩)
    (fun i h h' st k => by
      obtain ⟨hz, hTI, ⟨x, y, hTO⟩, ⟨o1, e1, c1⟩, ⟨o2, e2, c2⟩⟩ := st
      exact ⟨k z (by simp) _ hz, k TI (by simp) _ hTI, ⟨x, y, k TO (by simp) _ hTO⟩, ⟨o1, k i1 (by simp) _ e1, c1⟩, ⟨o2, k i2 (by simp) _ e2, c2⟩⟩)
    (fun A i s Q E st h => wpAny_pyIter_zip st.1 h)
    (fun X hP hw hK hc i pins s σ H I hf st hg => by
      subst hP hw hK
      obtain ⟨hz, hTI, hTO, h1, h2⟩ := st
      obtain ⟨xs, ys, x, y, hqx, hqy, hx, hy⟩ := hg
      obtain ⟨its, rv, p, _⟩ := I.tuple hqx
      obtain ⟨its2, rv2, p2, _⟩ := I.list hqy
      have sep := zsep (a := a) (b := b) D fun c hc => ⟨seqT_ne I hqx (hf c hc), seqL_ne I hqy (hf c hc)⟩
      have W := GoesN.zip2 (elts := elts) (x1 := kk) (pos := tpos) sep (Draws.tuple (prog := X.prog) (w := X.w) (A := X.A.in1) (I.ok.hd hc) i1 a (seqT_ne I hqx (hf i1 (by simp))) its.toArray) (Draws.list (prog := X.prog) (w := X.w) (A := X.A.in1) (I.ok.hd hc) i2 b (seqL_ne I hqy (hf i2 (by simp))) its2.toArray)
      refine ⟨_, _, _, _, _, W, fun c hc => ?_, ?_, ⟨hz, hTI, hTO, ⟨h1, p⟩, ⟨h2, p2.isList⟩⟩, fun v h' yv s1 => ?_⟩
      · simp only [List.mem_cons, List.not_mem_nil, or_false] at hc ⊢
        rcases hc with q | q | q | q
        · exact .inl q
        · exact .inr (.inr (.inl q))
        · exact .inr (.inr (.inr (.inl q)))
        · exact .inr (.inr (.inr (.inr q)))
      · rw [List.size_toArray, List.size_toArray, ← rv.length, ← rv2.length]
        have a1 := (List.getElem?_eq_some_iff.mp hx).1
        have a2 := (List.getElem?_eq_some_iff.mp hy).1
        omega
      · obtain ⟨T, ux, uy, rfl, hT, hux, huy, hTup⟩ := yv
        obtain ⟨z1, z2, z3, ⟨z4, _⟩, ⟨z5, _⟩⟩ := s1
        exact ⟨⟨z1, z2, z3, z4, z5⟩, T, x, y, ux, uy, rfl, hT, hTup, rel_at rv hx (at_toArray hux), rel_at rv2 hy (at_toArray huy), T, x, y, rfl, I.hok.fresh hT, rfl, fun l hl => by rw [I.tuple_inj hl hqx]; exact hx, fun l hl => by rw [I.list_inj hl hqy]; exact hy⟩)
    (fun X hP hw hK hc i pins s σ H I hf st hg E => by
      subst hP hw hK
      obtain ⟨hz, hTI, hTO, h1, h2⟩ := st
      obtain ⟨xs, ys, hqx, hqy, hx⟩ := hg
      obtain ⟨its, rv, p, _⟩ := I.tuple hqx
      obtain ⟨its2, rv2, p2, _⟩ := I.list hqy
      have sep := zsep (a := a) (b := b) D fun c hc => ⟨seqT_ne I hqx (hf c hc), seqL_ne I hqy (hf c hc)⟩
      have W := GoesN.zip2 (elts := elts) (x1 := kk) (pos := tpos) sep (Draws.tuple (prog := X.prog) (w := X.w) (A := X.A.in1) (I.ok.hd hc) i1 a (seqT_ne I hqx (hf i1 (by simp))) its.toArray) (Draws.list (prog := X.prog) (w := X.w) (A := X.A.in1) (I.ok.hd hc) i2 b (seqL_ne I hqy (hf i2 (by simp))) its2.toArray)
      have hi : i = min its.toArray.size its2.toArray.size := by rw [List.size_toArray, List.size_toArray, ← rv.length, ← rv2.length]; exact hx
      subst hi
      refine W.stops s (fun s1 => Inv X pins σ H s1) E ⟨hz, hTI, hTO, ⟨h1, p⟩, ⟨h2, p2.isList⟩⟩ fun h' tk k1 _ => ?_
      refine I.turnedL (t' := tk) (ch := [z, TO, i1, i2]) k1 fun c hc => hf c ?_
      simp only [List.mem_cons, List.not_mem_nil, or_false] at hc ⊢
      rcases hc with q | q | q | q
      · exact .inl q
      · exact .inr (.inr (.inl q))
      · exact .inr (.inr (.inr (.inl q)))
      · exact .inr (.inr (.inr (.inr q))))
theorem walkD_zipM {K : PySem.W.Frag} {G : Hp} {a b : Addr} {xs ys : List V} {ds es : List Da} {k : Bool} (hz : xs.length ≤ sizeLine) (h : TupAt G k a xs) (h' : G b = some (.lst ys)) (hd : DxAll G xs ds) (hd' : DxAll G ys es) : WalkD (ItzM K a b) G (pairsD ds es) := by
  refine walkD_pairs hd hd' hz (fun H sh i h1 h2 => ?_) (fun H sh => ?_) fun H sh i v H' h1 h2 y => ?_
  · exact ⟨xs, ys, xs[i], ys[i], (h.mono sh).sqt, SqL.of (sh _ _ h'), List.getElem?_eq_getElem h1, List.getElem?_eq_getElem h2⟩
  · exact ⟨xs, ys, (h.mono sh).sqt, SqL.of (sh _ _ h'), rfl⟩
  · obtain ⟨T, x, y0, y1, y2, y3, y4, y5⟩ := y
    exact ⟨T, x, y0, y1, y2, y3, y4 xs (h.mono sh).sqt, y5 ys (SqL.of (sh _ _ h'))⟩
section
variable {X : Cx} {e e2 : Expr} {ρ : Rho} {ds : List Da} {pos : Pos}
def iZipM (K : PySem.W.Frag) (ta : TA) : TI := fun σ H R => ta σ H fun vs H1 => ∃ a b xs ys, vs = [.ref a, .ref b] ∧ SqT K H1 a xs ∧ SqL K H1 b ys ∧ R (ItzM K a b) H1
theorem pi_zipM {ta : TA} {p tpos : Pos} {elts : List Expr} {kk : Nat} (hg : Gl X "zip") (hm : X.mg "zip" = none) (ha : PA X [e, e2] ta)
    (hs : starEach [e, e2] X.env = (false, eval e X.env) :: starEach [e2] X.env) (hpl : (backTo pos (starEach [e2] X.env)).any (·.1) = false) :
    PI X (.Tuple elts kk tpos) (.Call (.Name "zip" p) [e, e2] [] pos) (iZipM X.K ta) := by
  refine ⟨fun pins s σ H R I h => ?_⟩
  refine Call_ (ld_blt I hg hm PyProof.Rows.boot_zip (PyProof.Rows.callWith_type1 (thn (ha.run pos pins s σ H _ I h) fun us s1 ⟨vs, H1, I1, r1, q1⟩ => ?_) hs hpl))
  obtain ⟨a, b, xs, ys, rfl, hqx, hqy, q⟩ := q1
  obtain ⟨u1, u2, rfl, ra, rb⟩ := vals2 r1
  cases ra
  cases rb
  obtain ⟨its, rv, p1, _⟩ := I1.tuple hqx
  obtain ⟨its2, rv2, p2, _⟩ := I1.list hqy
  refine zip_begins2 (begins_tuple a its.toArray) (begins_list b its2.toArray) (show s1.heap.IsTuple a its.toArray from p1) p2.isList fun h' hz hTI hTO h1 h2 hsz hk => wpAny_pyIter_zip hz ?_
  have D : Five (s1.heap.objs.size + 4) (s1.heap.objs.size + 2) (s1.heap.objs.size + 3) s1.heap.objs.size (s1.heap.objs.size + 1) := by
    generalize s1.heap.objs.size = n
    exact ⟨show (n + 2 : Nat) ≠ n + 4 by omega, show (n + 3 : Nat) ≠ n + 4 by omega, show (n + 2 : Nat) ≠ n + 3 by omega, show (n + 2 : Nat) ≠ n by omega, show (n + 2 : Nat) ≠ n + 1 by omega, show (n + 3 : Nat) ≠ n by omega, show (n + 3 : Nat) ≠ n + 1 by omega, show (n + 4 : Nat) ≠ n by omega, show (n + 4 : Nat) ≠ n + 1 by omega, show (n : Nat) ≠ n + 1 by omega⟩
  refine ⟨s1.heap.objs.size + 4, [s1.heap.objs.size + 4, s1.heap.objs.size + 2, s1.heap.objs.size + 3, s1.heap.objs.size, s1.heap.objs.size + 1], _, _, H1, rfl, I1.kept (t' := s1.toks) hk, turn_zipM D, ⟨hz, hTI, ⟨_, _, hTO⟩, ⟨_, h1, rfl, rfl⟩, ⟨_, h2, rfl, rfl⟩⟩, fun c hc => ?_, q⟩
  have hle : s1.heap.objs.size ≤ c := by
    simp only [List.mem_cons, List.not_mem_nil, or_false] at hc
    rcases hc with z | z | z | z | z
    · rw [z]; exact Nat.le_add_right _ _
    · rw [z]; exact Nat.le_add_right _ _
    · rw [z]; exact Nat.le_add_right _ _
    · rw [z]; exact Nat.le_refl _
    · rw [z]; exact Nat.le_add_right _ _
  exact I1.fpOk hle (I1.hok.fresh hle)
theorem piv_zipM {es' : List Da} {elts : List Expr} {kk : Nat} {p tpos : Pos} {k : Bool} (h : PV X e ρ (.tuple k ds)) (h' : PV X e2 ρ (.list es')) (hg : Gl X "zip") (hm : X.mg "zip" = none)
    (hs : starEach [e, e2] X.env = (false, eval e X.env) :: starEach [e2] X.env := by rfl) (hs2 : starEach [e2] X.env = (false, eval e2 X.env) :: starEach [] X.env := by rfl) (hpl : (backTo pos (starEach [e2] X.env)).any (·.1) = false := by rfl) :
    PIV X (.Tuple elts kk tpos) (.Call (.Name "zip" p) [e, e2] [] pos) ρ (pairsD ds es') :=
  PI.piv (pi_zipM hg hm (pa_z [e, e2]) hs hpl) fun σ G H R sg hl he hq => (pav_cons h (pav_cons h' pav_nil hs2) hs) σ G H _ sg hl he fun vs G1 H1 x1 d1 z => by
    cases d1 with
    | cons k1 k2 =>
      cases k2 with
      | cons k2 k3 =>
        cases k3
        cases k1 with
        | tup m1 m2 =>
          cases k2 with
          | lst n1 n2 => exact ⟨_, _, _, _, rfl, (m1.mono x1.gh).sqt, SqL.of (x1.gh _ _ n1), hq _ G1 H1 x1 (walkD_zipM (z _ _ (.inr ⟨_, m1.mono x1.gh⟩)) m1 n1 m2 n2)⟩
end
end K42
/-! ## KBase -/
namespace K42
open PySem PySem.Spec L2
open PyProof.Rows hiding St
def topS (i : Nat) : Stmt := PySem.Challenge.pw_clearsheets_k42_whole_ways_that_are_alik.main.body.getD i (.Pass ⟨0, 0, 0, 0⟩)

/-! ### groups and tables as data -/
def nD (n : Nat) : Da := .int (n : Int)
def gD (g : List Nat) : Da := .tuple false (g.map nD)
theorem er_nD (n : Nat) : er (nD n) = .int (n : Int) := by unfold nD; rw [er]
theorem eqv_nD (a b : Nat) : PyData.eqv (er (nD a)) (er (nD b)) = decide (a = b) := by
  rw [er_nD, er_nD]
  simp only [PyData.eqv]
  rw [Bool.eq_iff_iff, beq_iff_eq, decide_eq_true_eq]
  omega
theorem eqvAll_map {α : Type} [DecidableEq α] {f : α → Da} (h : ∀ a b, PyData.eqv (er (f a)) (er (f b)) = decide (a = b)) : ∀ xs ys : List α, PyData.eqvAll (erAll (xs.map f)) (erAll (ys.map f)) = decide (xs = ys)
  | [], [] => by simp [erAll, PyData.eqvAll]
  | [], y :: ys => by simp [erAll, PyData.eqvAll]
  | x :: xs, [] => by simp [erAll, PyData.eqvAll]
  | x :: xs, y :: ys => by
    rw [List.map_cons, List.map_cons, erAll, erAll, PyData.eqvAll, h, eqvAll_map h xs ys, ← Bool.decide_and]
    exact decide_eq_decide.mpr (by rw [List.cons.injEq])
theorem eqv_tup {α : Type} [DecidableEq α] {f : α → Da} (h : ∀ a b, PyData.eqv (er (f a)) (er (f b)) = decide (a = b)) (j k : Bool) (xs ys : List α) : PyData.eqv (er (.tuple j (xs.map f))) (er (.tuple k (ys.map f))) = decide (xs = ys) := by
  rw [er, er]
  simp only [PyData.eqv]
  exact eqvAll_map h xs ys
theorem eqv_gD (a b : List Nat) : PyData.eqv (er (gD a)) (er (gD b)) = decide (a = b) := eqv_tup eqv_nD _ _ a b
/-- nice: plain, and not deep -/
def Nice (n : Nat) (d : Da) : Prop := (er d).plain = true ∧ (er d).depth ≤ n
theorem Nice.mono {m n : Nat} {d : Da} (h : Nice m d) (l : m ≤ n) : Nice n d := ⟨h.1, Nat.le_trans h.2 l⟩
theorem Nice.ok {n : Nat} {d : Da} (h : Nice n d) (l : n ≤ 60 := by decide) : depthOk d := ⟨h.1, Nat.le_trans h.2 l⟩
theorem nice_nD (n : Nat) : Nice 0 (nD n) := by unfold nD Nice; rw [er]; exact ⟨rfl, Nat.le_refl _⟩
theorem nice_int (n : Int) : Nice 0 (.int n) := by unfold Nice; rw [er]; exact ⟨rfl, Nat.le_refl _⟩
theorem nice_bool (n : Bool) : Nice 0 (.bool n) := by unfold Nice; rw [er]; exact ⟨rfl, Nat.le_refl _⟩
theorem nice_str (n : Str) : Nice 0 (.str n) := by unfold Nice; rw [er]; exact ⟨rfl, Nat.le_refl _⟩
theorem nice_none : Nice 0 .none := by unfold Nice; rw [er]; exact ⟨rfl, Nat.le_refl _⟩
theorem niceAll {n : Nat} : ∀ {ds : List Da}, (∀ d ∈ ds, Nice n d) → PyData.plainAll (erAll ds) = true ∧ PyData.depthAll (erAll ds) ≤ n
  | [], _ => by rw [erAll]; exact ⟨rfl, Nat.zero_le _⟩
  | d :: ds, h => by
    obtain ⟨a1, a2⟩ := h d List.mem_cons_self
    obtain ⟨b1, b2⟩ := niceAll (ds := ds) fun e he => h e (List.mem_cons_of_mem _ he)
    rw [erAll]
    simp only [PyData.plainAll, PyData.depthAll]
    exact ⟨by rw [a1, b1]; rfl, Nat.max_le.mpr ⟨a2, b2⟩⟩
theorem nice_tup {n : Nat} {k : Bool} {ds : List Da} (h : ∀ d ∈ ds, Nice n d) : Nice (n + 1) (.tuple k ds) := by
  obtain ⟨a, b⟩ := niceAll h
  unfold Nice
  rw [er]
  simp only [PyData.plain, PyData.depth]
  exact ⟨a, Nat.succ_le_succ b⟩
theorem nice_lst {n : Nat} {ds : List Da} (h : ∀ d ∈ ds, Nice n d) : Nice (n + 1) (.list ds) := by
  obtain ⟨a, b⟩ := niceAll h
  unfold Nice
  rw [er]
  simp only [PyData.plain, PyData.depth]
  exact ⟨a, Nat.succ_le_succ b⟩
theorem nice_map {α : Type} {n : Nat} {f : α → Da} (h : ∀ a, Nice n (f a)) (xs : List α) : ∀ d ∈ xs.map f, Nice n d := fun d hd => by
  obtain ⟨a, _, rfl⟩ := List.mem_map.mp hd
  exact h a
theorem nice_gD (g : List Nat) : Nice 1 (gD g) := nice_tup (nice_map nice_nD g)
theorem plain_map {α : Type} {n : Nat} {f : α → Da} (h : ∀ a, Nice n (f a)) (xs : List α) : PyData.plainAll (erAll (xs.map f)) = true := (niceAll (nice_map h xs)).1
/-- alike and how they are ordered -/
theorem alikeAll_of {α : Type} {f : α → Da} (h : ∀ a b, PySem.W.alike (er (f a)) (er (f b)) = true) : ∀ xs ys : List α, PySem.W.alikeAll (erAll (xs.map f)) (erAll (ys.map f)) = true
  | [], _ => by rw [List.map_nil, erAll, PySem.W.alikeAll]
  | x :: xs, [] => by rw [List.map_nil, List.map_cons, erAll, erAll, PySem.W.alikeAll]
  | x :: xs, y :: ys => by
    rw [List.map_cons, List.map_cons, erAll, erAll, PySem.W.alikeAll, h, alikeAll_of h xs ys]
    rfl
theorem alike_tup {α : Type} {f : α → Da} (h : ∀ a b, PySem.W.alike (er (f a)) (er (f b)) = true) (j k : Bool) (xs ys : List α) : PySem.W.alike (er (.tuple j (xs.map f))) (er (.tuple k (ys.map f))) = true := by
  rw [er, er, PySem.W.alike]
  exact alikeAll_of h xs ys
theorem alike_nD (a b : Nat) : PySem.W.alike (er (nD a)) (er (nD b)) = true := by rw [er_nD, er_nD, PySem.W.alike]
theorem alike_gD (a b : List Nat) : PySem.W.alike (er (gD a)) (er (gD b)) = true := alike_tup alike_nD _ _ a b
theorem lexAll_of {α : Type} [DecidableEq α] {f : α → Da} {lt : α → α → Bool} (h : ∀ a b, PySem.W.alike (er (f a)) (er (f b)) = true) (he : ∀ a b, PyData.eqv (er (f a)) (er (f b)) = decide (a = b)) (hl : ∀ a b, PySem.W.dataLt (er (f a)) (er (f b)) = lt a b) :
    ∀ xs ys : List α, PyProof.Rows.lexLt PyProof.Rows.itemOrd (PySem.W.keyToksAll (erAll (xs.map f))) (PySem.W.keyToksAll (erAll (ys.map f))) = lexL lt xs ys
  | [], [] => PyProof.Rows.lex_irrefl _
  | [], y :: ys => by
    rw [List.map_nil, List.map_cons, erAll, erAll, PySem.W.toks_all_cons]
    simp only [PySem.W.keyToksAll]
    rw [PyProof.Rows.lex_diff (O := PyProof.Rows.itemOrd) (by simp)]
    rfl
  | x :: xs, [] => by
    rw [List.map_nil, List.map_cons, erAll, erAll, PySem.W.toks_all_cons]
    simp only [PySem.W.keyToksAll]
    rw [PyProof.Rows.lex_diff (O := PyProof.Rows.itemOrd) (by simp)]
    rfl
  | x :: xs, y :: ys => by
    rw [List.map_cons, List.map_cons, erAll, erAll, lexL]
    by_cases e : x = y
    · rw [if_pos e, PySem.W.dataLt_all_yes (h x y) (by rw [he, decide_eq_true_eq]; exact e), lexAll_of h he hl xs ys]
    · rw [if_neg e, PySem.W.dataLt_all_no (h x y) (by rw [he, decide_eq_false_iff_not]; exact e)]
      exact hl x y
theorem dataLt_tup {α : Type} [DecidableEq α] {f : α → Da} {lt : α → α → Bool} (h : ∀ a b, PySem.W.alike (er (f a)) (er (f b)) = true) (he : ∀ a b, PyData.eqv (er (f a)) (er (f b)) = decide (a = b)) (hl : ∀ a b, PySem.W.dataLt (er (f a)) (er (f b)) = lt a b) (j k : Bool) (xs ys : List α) :
    PySem.W.dataLt (er (.tuple j (xs.map f))) (er (.tuple k (ys.map f))) = lexL lt xs ys := by
  rw [er, er]
  exact (PySem.W.dataLt_tuple _ _).trans (lexAll_of h he hl xs ys)
theorem lt_nD (a b : Nat) : PySem.W.dataLt (er (nD a)) (er (nD b)) = ltN a b := by
  rw [er_nD, er_nD, PySem.W.dataLt_int]
  unfold ltN
  exact decide_eq_decide.mpr (by omega)
theorem lt_gD (a b : List Nat) : PySem.W.dataLt (er (gD a)) (er (gD b)) = ltG a b := dataLt_tup alike_nD eqv_nD lt_nD _ _ a b
theorem msort_map {α : Type} {f : α → Da} {lt : α → α → Bool} (hl : ∀ a b, PySem.W.dataLt (er (f a)) (er (f b)) = lt a b) (xs : List α) : msort (xs.map f) = (sortBy lt xs).map f := by
  unfold msort sortBy
  rw [PySem.W.sort_maps (s := PySem.W.dataLe false er) f]
  intro a _ b _
  show (!lt b a) = (!PySem.W.dataLt (er (f b)) (er (f a)))
  rw [hl]
theorem sortOk_tups {α : Type} {f : α → Da} {n : Nat} (h : ∀ a b, PySem.W.alike (er (f a)) (er (f b)) = true) (hn : ∀ a, Nice n (f a)) (l : n ≤ 60) (ht : ∀ a, ∃ k xs, f a = .tuple k xs) (xs : List α) : SortOk (xs.map f) where
  alk := fun d hd e he => by
    obtain ⟨a, _, rfl⟩ := List.mem_map.mp hd
    obtain ⟨b, _, rfl⟩ := List.mem_map.mp he
    exact h a b
  kind := .inl fun d hd => by
    obtain ⟨a, _, rfl⟩ := List.mem_map.mp hd
    obtain ⟨k, ys, e⟩ := ht a
    exact ⟨erAll ys, by rw [e, er]⟩
  dep := fun d hd => by
    obtain ⟨a, _, rfl⟩ := List.mem_map.mp hd
    exact ⟨(hn a).1, Nat.le_trans (hn a).2 l⟩
theorem sortOk_gD (xs : List (List Nat)) : SortOk (xs.map gD) := sortOk_tups alike_gD nice_gD (by decide) (fun a => ⟨_, _, rfl⟩) xs
theorem sortOk_nD (xs : List Nat) : SortOk (xs.map nD) where
  alk := fun d hd e he => by
    obtain ⟨a, _, rfl⟩ := List.mem_map.mp hd
    obtain ⟨b, _, rfl⟩ := List.mem_map.mp he
    exact alike_nD a b
  kind := .inr fun d hd => by
    obtain ⟨a, _, rfl⟩ := List.mem_map.mp hd
    rw [er_nD]
    exact ⟨(fun z => nomatch z), (fun _ z => nomatch z)⟩
  dep := fun d hd => by
    obtain ⟨a, _, rfl⟩ := List.mem_map.mp hd
    exact (nice_nD a).ok
theorem upto_nD (n : Nat) : upto n = (List.range n).map nD := rfl
theorem any_eq {α : Type} [DecidableEq α] {f : α → Da} (he : ∀ a b, PyData.eqv (er (f a)) (er (f b)) = decide (a = b)) (xs : List α) (a : α) : ((xs.map f).any fun y => PyData.eqv (er y) (er (f a))) = xs.contains a := by
  rw [List.any_map]
  induction xs with
  | nil => rfl
  | cons x xs ih =>
    rw [List.any_cons, ih, List.contains_cons]
    show (PyData.eqv (er (f x)) (er (f a)) || xs.contains a) = _
    rw [he, Bool.beq_eq_decide_eq]
    congr 1
    exact decide_eq_decide.mpr ⟨fun e => e.symm, fun e => e.symm⟩
end K42
/-! ## KMore -/
namespace K42
open PySem PySem.Spec L2
open PyProof.Rows hiding St
theorem map_nD (g : List Nat) : g.map nD = (g.map fun n : Nat => (n : Int)).map Da.int := by
  rw [List.map_map]
  rfl
theorem dx_gD {G : Hp} {v : V} {g : List Nat} (h : Dx G v (gD g)) : ∃ b, v = .ref b ∧ G b = some (.tup (vN g)) := by
  unfold gD at h
  rw [map_nD] at h
  cases h with
  | tup h1 h2 =>
    have e := h2.int_of
    subst e
    refine ⟨_, rfl, ?_⟩
    have : G _ = some _ := h1
    rw [this, List.map_map]
    rfl
theorem dx_gD' {G : Hp} {b : Addr} {g : List Nat} (h : G b = some (.tup (vN g))) : Dx G (.ref b) (gD g) := by
  unfold gD
  rw [map_nD]
  refine .tup (xs := vN g) h ?_
  have := DxAll.ints G (g.map fun n : Nat => (n : Int))
  rw [List.map_map] at this
  exact this
section
variable {X : Cx} {e e2 o : Expr} {es : List Expr} {ρ : Rho} {ω : Own} {d : Da} {ds : List Da} {p pos : Pos} {N : Rho → Own → Prop} {R : Da → Prop} {sts : List Stmt}
/-- d[g] of a dict whose keys are groups -/
theorem pv_dget {f : List Nat → Option (List Nat)} {g r : List Nat} (hu : X.A.units + 70 < cLine) (ho : PV X o ρ (.dct f)) (hi : PV X e ρ (gD g)) (hf : f g = some r) (hs : NoSl e := by exact fun _ _ => rfl) : PV X (.Subscript o e pos) ρ (gD r) :=
  PE.pv (pe_dget (by omega) (pe_w o) (pe_w e) hs) fun σ G H Q sg hl he hq => ho σ G H _ sg hl he fun v G1 H1 x1 d1 => hi σ G1 H1 _ x1.gh hl (he.mono (x1.gg sg)) fun u G2 H2 x2 d2 => by
    obtain ⟨b, rfl, hb⟩ := dx_gD d2
    cases Dx.mono (x2.gg x1.gh) _ d1 with
    | dct k1 k2 =>
      obtain ⟨c, c1, c2⟩ := k2 _ _ hf
      refine ⟨_, _, rfl, c1 ▸ DGet.t (x2.gh _ _ k1) (by rw [kN_v]; exact x2.gh _ _ hb), ?_⟩
      exact hq _ G2 H2 (x1.trans x2) (dx_gD' c2)
/-- two tuples put together, none of them empty -/
theorem pv_catTT {xs ys : List Da} {j k : Bool} {a b : Expr} (hx : xs ≠ []) (hy : ys ≠ []) (hz : xs.length + ys.length ≤ 100000) (ha : PV X a ρ (.tuple j xs)) (hb : PV X b ρ (.tuple k ys)) : PV X (.BinOp a .Add b pos) ρ (.tuple false (xs ++ ys)) :=
  pv_op op_catA ha hb fun x y G H Q sg hx1 hy1 hq => by
    cases hx1 with
    | tup h1 h2 =>
      cases hy1 with
      | tup k1 k2 =>
        refine ⟨_, _, _, _, rfl, rfl, (h1.mono sg).sqt, (k1.mono sg).sqt, by rw [h2.length, k2.length, sizeLine_eq]; omega, fun e => ?_, fun e e2 => ?_, fun e e2 p hp => ?_⟩
        · exact absurd (h2.nil_iff.mp e) hx
        · exact absurd (k2.nil_iff.mp e2) hy
        · exact hq _ _ _ (Ext.add sg hp) (.tup upd_same (DxAll.mono (same_upd (sg.free hp)) _ (h2.append k2)))
theorem put_len {kvs : List (List Key × V)} {k : List Key} {v : V} : (putK kvs k v).length ≤ kvs.length + 1 := by
  unfold putK
  split
  · rw [List.length_map]; omega
  · rw [List.length_append]; exact Nat.le_refl _
/-- x = {}; for y in iter: x[y] = value -/
theorem sj_fill {x y : Str} {i j : Nat} {iter value : Expr} {pa pb pc pd pe pf pg ph pi : Pos} {xs : List (List Nat)} (f : List Nat → List Nat) (hu : X.A.units + 70 < cLine) (hc : X.calm = true) (hn : X.N.Nodup) (hi : X.N[i]? = some x) (hj : X.N[j]? = some y) (hij : i ≠ j) (hir : i < ρ.length) (hjr : j < ρ.length) (hz : xs.length ≤ 100000)
    (hit : ∀ ρ' : Rho, ρ' = ρ.set i none → PIV X (.Name y pd) iter ρ' (xs.map gD)) (hv : ∀ a ∈ xs, PV X value ((ρ.set i none).set j (some (gD a))) (gD (f a))) (hp : PassesOwn (model X.prog X.w) X.A X.env X.xe)
    (h : SJ X sts (((ρ.set i none).set j none).set i (some (.dct fun g => if g ∈ xs then some (f g) else none))) none N R)
    (lx : Loc X.env.scope x := by first | exact Or.inl rfl | exact Or.inr rfl) (ly : Loc X.env.scope y := by first | exact Or.inl rfl | exact Or.inr rfl) (fx : X.fn x = true ∨ X.env.scope.names.lookup x = some .local := by first | exact .inl rfl | exact .inr rfl | assumption) (fy : X.fn y = true ∨ X.env.scope.names.lookup y = some .local := by first | exact .inl rfl | exact .inr rfl | assumption)
    (vx : Vis X.env.scope x := by first | exact Or.inl rfl | exact Or.inr (Or.inl rfl) | exact Or.inr (Or.inr rfl)) (vy : Vis X.env.scope y := by first | exact Or.inl rfl | exact Or.inr (Or.inl rfl) | exact Or.inr (Or.inr rfl)) (dx : (x == ("__debug__" : Str)) = false := by decide) (dy : (y == ("__debug__" : Str)) = false := by decide) (cx : (x == ("__classdict__" : Str)) = false := by decide) (cy : (y == ("__classdict__" : Str)) = false := by decide)
    (hs1 : swapsWith (.Dict [] [] pb) (some (.Name x pa)) pc.line X.env = pure false := by rfl) (hs : ∀ x, foldedSetIterable iter X.env x = pure x := by intro _; rfl) (hs2 : swapsWith value (some (.Subscript (.Name x pe) (.Name y pf) pg)) ph.line X.env = pure false := by rfl) :
    SJ X (.Assign [.Name x pa] (.Dict [] [] pb) pc :: .For (.Name y pd) iter [.Assign [.Subscript (.Name x pe) (.Name y pf) pg] value ph] [] pi :: sts) ρ none N R :=
  PSs.sj (pss_cons (ps_set hn hi lx pe_dnewT hs1 fx) (pss_cons (ps_for (pos := pi) hp hc (pi_w (.Name y pd) iter) (pg_name hn hj ly fy) (pss_cons (ps_dput (by omega) (pe_var hi vx dx cx) (pe_var hj vy dy cy) (pe_w value) hs2) pss_nil) hs) (pss_w sts))) fun G0 H0 G H σ D s hq hr q hp => by
    have s1 : SOk G0 H0 G (upd H q (.dT [])) (σ.set i (some (.ref q))) (ρ.set i none) none :=
      ⟨s.ext.trans ⟨same_upd hp, same_updR s.ext.gh (s.ext.gh.free hp), fun _ _ => rfl⟩, by rw [List.length_set, List.length_set]; exact s.len, s.env.set_none, fun _ _ z => nomatch z⟩
    refine hit _ rfl _ G _ _ s1.ext.gh s1.len s1.env fun J G1 H1 x1 wk => ?_
    have s2 := s1.step x1
    have gq : G q = none := s.ext.gh.free hp
    have gq1 : G1 q = none := by rw [x1.new q (by rw [upd_same]; exact fun z => nomatch z)]; exact gq
    refine ⟨fun k m σ2 H2 => k ≤ xs.length ∧ m = xs.length - k ∧ ∃ G2 kvs, SOk G0 H0 G2 H2 σ2 ((ρ.set i none).set j none) none ∧ Same G1 G2 ∧ σ2[i]? = some (some (.ref q)) ∧ H2 q = some (.dT kvs) ∧ G2 q = none ∧ kvs.length ≤ k ∧ (∀ a ∈ xs.take k, ∃ b, valV kvs (kN a) = some (.ref b) ∧ G2 b = some (.tup (vN (f a)))),
      ⟨xs.length, Nat.zero_le _, rfl, G1, [], ⟨s2.ext, by rw [List.length_set]; exact s2.len, fun k d hk => ?_, fun _ _ z => nomatch z⟩, Same.refl G1, List.getElem?_set_self (Nat.lt_of_lt_of_le hir s.len), x1.hh _ _ upd_same, gq1, Nat.le_refl _, fun a ha => by rw [List.take_zero] at ha; cases ha⟩, ?_⟩
    · by_cases hkj : j = k
      · subst hkj
        by_cases hlt : j < (ρ.set i none).length
        · rw [List.getElem?_set_self hlt] at hk; cases hk
        · rw [List.getElem?_eq_none (by rw [List.length_set]; omega)] at hk; cases hk
      · rw [List.getElem?_set_ne hkj] at hk
        exact s2.env k d hk
    rintro k m σ2 H2 ⟨hk, rfl, G2, kvs, t2, g2, hσ, hq2, gq2, hlen, hkv⟩
    by_cases hlt : k < xs.length
    · refine .inr ⟨wk.go G2 H2 g2 t2.ext.gh k (by rw [List.length_map]; exact hlt), fun σ' H' => ∃ G2 kvs, SOk G0 H0 G2 H' σ' ((ρ.set i none).set j none) none ∧ Same G1 G2 ∧ σ'[i]? = some (some (.ref q)) ∧ H' q = some (.dT kvs) ∧ G2 q = none ∧ kvs.length ≤ k + 1 ∧ (∀ a ∈ xs.take (k + 1), ∃ b, valV kvs (kN a) = some (.ref b) ∧ G2 b = some (.tup (vN (f a)))),
        fun σ' H' hh => ⟨xs.length - (k + 1), by omega, hlt, rfl, hh⟩, fun z H' hy => ?_⟩
      have ha : xs[k]? = some xs[k] := List.getElem?_eq_getElem hlt
      have hm : xs[k] ∈ xs := List.getElem_mem hlt
      obtain ⟨G3, x3, dz⟩ := wk.yld G2 H2 g2 t2.ext.gh k (gD xs[k]) z H' (by rw [List.getElem?_map, ha]; rfl) hy
      have t3 := t2.step x3
      have e3 : EOk G3 (σ2.set j (some z)) (((ρ.set i none).set j none).set j (some (gD xs[k]))) := t3.env.set t3.len dz
      rw [List.set_set] at e3
      have l3 : ((ρ.set i none).set j (some (gD xs[k]))).length ≤ (σ2.set j (some z)).length := by
        have := t3.len
        rw [List.length_set, List.length_set] at this
        rw [List.length_set, List.length_set, List.length_set]
        exact this
      refine hv _ hm (σ2.set j (some z)) G3 H' _ t3.ext.gh l3 e3 fun v G4 H4 x4 dv => ?_
      have hjl : j < σ2.length := by
        have := t2.len
        rw [List.length_set, List.length_set] at this
        omega
      obtain ⟨b, rfl, hb⟩ := dx_gD dz
      obtain ⟨c, rfl, hcc⟩ := dx_gD dv
      refine ⟨.ref q, by rw [List.getElem?_set_ne (fun z => hij z.symm)]; exact hσ, .ref b, List.getElem?_set_self hjl, q, upd H4 q (.dT (putK kvs (kN xs[k]) (.ref c))), rfl, ?_⟩
      have x34 := x3.trans x4
      have hq4 : H4 q = some (.dT kvs) := x34.hh _ _ hq2
      have gq4 : G4 q = none := by rw [x34.new q (by rw [hq2]; exact fun z => nomatch z)]; exact gq2
      refine ⟨DPut.t (k := kN xs[k]) hq4 (by rw [kN_v]; exact x4.hh _ _ (x3.gh _ _ hb)) (by rw [sizeLine_eq]; omega), ?_⟩
      have h0q : H0 q = none := s.ext.hh.free hp
      refine ⟨G4, _, ⟨⟨fun b o hb => ?_, same_updR x4.gh gq4, ?_⟩, ?_, ?_, fun _ _ z => nomatch z⟩, g2.trans (x34.gg t2.ext.gh), by rw [List.getElem?_set_ne (fun z => hij z.symm)]; exact hσ, upd_same, gq4, Nat.le_trans put_len (Nat.succ_le_succ hlen), fun a hma => ?_⟩
      · rw [upd_ne (ne_of_none hb h0q)]
        exact x34.hh _ _ (t2.ext.hh _ _ hb)
      · exact (t2.ext.trans x34).new
      · have := t2.len
        simp only [List.length_set] at this ⊢
        exact this
      · have := (t2.step x34).env.set_none (i := j) (w := some (.ref b))
        rw [List.set_set] at this
        exact this
      · rw [valV_put]
        by_cases hak : kN a = kN xs[k]
        · rw [if_pos hak]
          have := kN_inj hak
          subst this
          exact ⟨c, rfl, hcc⟩
        · rw [if_neg hak]
          rw [List.take_add_one, ha, Option.toList_some] at hma
          rcases List.mem_append.mp hma with hma | hma
          · obtain ⟨b2, k1, k2⟩ := hkv a hma
            exact ⟨b2, k1, x34.gg t2.ext.gh _ _ k2⟩
          · exact absurd (by rw [List.mem_singleton.mp hma]) hak
    · have ek : k = xs.length := by omega
      subst ek
      have st := wk.stop G2 H2 g2 t2.ext.gh
      rw [List.length_map] at st
      refine .inl ⟨st, ?_⟩
      have sg : Same G2 (upd G2 q (.dT kvs)) := same_upd gq2
      refine h G0 H0 (upd G2 q (.dT kvs)) H2 σ2 D ⟨⟨t2.ext.hh, fun b o hb => ?_, fun a ha => ?_⟩, by rw [List.length_set]; exact t2.len, fun l dl hl => ?_, fun _ _ z => nomatch z⟩ (fun σ' G' H' ρ' ω' n s' sg' => hq σ' G' H' ρ' ω' n s' ((x1.gg s1.ext.gh).trans (g2.trans (sg.trans sg')))) hr
      · by_cases hbp : b = q
        · subst hbp
          rw [upd_same] at hb
          cases hb
          exact hq2
        · rw [upd_ne hbp] at hb
          exact t2.ext.gh _ _ hb
      · rw [upd_ne (fun z => ha (by rw [z]; exact s.ext.hh.free hp))]
        exact t2.ext.new a ha
      · by_cases hil : i = l
        · subst hil
          rw [List.getElem?_set_self (by rw [List.length_set, List.length_set]; exact hir)] at hl
          cases hl
          refine ⟨_, hσ, .dct upd_same fun g r e => ?_⟩
          by_cases hg : g ∈ xs
          · have e : (if g ∈ xs then some (f g) else none) = some r := e
            rw [if_pos hg] at e
            cases e
            rw [List.take_length] at hkv
            obtain ⟨b, k1, k2⟩ := hkv g hg
            exact ⟨b, k1, sg _ _ k2⟩
          · have e : (if g ∈ xs then some (f g) else none) = some r := e
            rw [if_neg hg] at e
            cases e
        · rw [List.getElem?_set_ne hil] at hl
          obtain ⟨v, k1, k2⟩ := t2.env l dl hl
          exact ⟨v, k1, Dx.mono sg _ k2⟩
end
end K42
/-! ## KDefA -/
namespace K42
open PySem PySem.Spec L2
open PyProof.Rows hiding St
abbrev sParts : Stmt := topS 5
abbrev sGroups : Stmt := topS 6
abbrev sIsPart : Stmt := topS 7
abbrev sDots : Stmt := topS 8

/-! ### the mathematics: mirrors -/
theorem partsU_snoc (x : Nat) : ∀ (g : List Nat) (acc : List (List Nat)), partsU (g ++ [x]) acc = partsU g acc ++ (partsU g acc).map (· ++ [x])
  | [], acc => rfl
  | h :: r, acc => partsU_snoc x r _
theorem partsU_length : ∀ (g : List Nat) (acc : List (List Nat)), (partsU g acc).length = acc.length * 2 ^ g.length
  | [], acc => by simp [partsU]
  | h :: r, acc => by
    show (partsU r _).length = _
    rw [partsU_length r, List.length_append, List.length_map, List.length_cons, Nat.pow_succ, Nat.mul_comm (2 ^ r.length) 2, ← Nat.mul_assoc]
    congr 1
    omega
theorem partsU_len : ∀ (g : List Nat) (acc : List (List Nat)) (m : Nat), (∀ x ∈ acc, x.length ≤ m) → ∀ o ∈ partsU g acc, o.length ≤ m + g.length
  | [], acc, m, h, o, ho => h o ho
  | a :: r, acc, m, h, o, ho => by
    have := partsU_len r _ (m + 1) (fun x hx => ?_) o ho
    · rw [List.length_cons]; omega
    · rcases List.mem_append.mp hx with hx | hx
      · exact Nat.le_succ_of_le (h x hx)
      · obtain ⟨y, hy, rfl⟩ := List.mem_map.mp hx
        rw [List.length_append]
        exact Nat.succ_le_succ (h y hy)
theorem partsU_small {g : List Nat} (h : g.length ≤ 5) (k : Nat) : (partsU (g.take k) [[]]).length ≤ 32 := by
  rw [partsU_length, List.length_take]
  have h1 : min k g.length ≤ 5 := by omega
  have : 2 ^ min k g.length ≤ 2 ^ 5 := Nat.pow_le_pow_right (by decide) h1
  simp only [List.length_cons, List.length_nil, Nat.zero_add, Nat.one_mul]
  omega
theorem partsU_short {g : List Nat} (h : g.length ≤ 5) (k : Nat) : ∀ o ∈ partsU (g.take k) [[]], o.length ≤ 5 := fun o ho => by
  have := partsU_len _ _ 0 (fun x hx => by
    have : x = [] := by simpa using hx
    rw [this]
    exact Nat.le_refl _) o ho
  rw [List.length_take] at this
  omega
theorem parts_map (g : List Nat) : msort ((partsU g [[]]).map gD) = (parts g).map gD := msort_map lt_gD _

/-! ### the promises -/
def fParts : List Da → Da → Prop := fun ds r => ∃ g : List Nat, ds = [gD g] ∧ g.length ≤ 5 ∧ r = .tuple false ((parts g).map gD)
def fGroups : List Da → Da → Prop := fun ds r => ∃ n : Nat, ds = [nD n] ∧ n ≤ 5 ∧ r = .tuple false ((groups n).map gD)
def fIsPart : List Da → Da → Prop := fun ds r => ∃ g o : List Nat, ds = [gD g, gD o] ∧ r = .bool (isPart g o)
section
variable {P : Program} {w : World} {K : PySem.W.Frag} {mg : Str → Option Value} {base : Heap} {f : Addr} {fd : FuncData} {k : Nat}
abbrev nParts : List Str := ["group", "found", "holder", "own"]
theorem scParts : FnScope nParts ["group"] (defScope sParts) := ⟨rfl, rfl, rfl, by decide +kernel, rfl, by decide +kernel, by decide +kernel⟩
theorem ok_parts (F : Fun K "parts" "parts" sParts f fd) (mt : mg "tuple" = none) (ms : mg "sorted" = none) : FnOk P w K mg base CX0 (k + 1) f fd ["group"] (spD fParts) := by
  refine fn_ok fParts F scParts (by decide) (fun ds r h => ?_) fun cdv A outer s H E ds r hr h => ?_
  · obtain ⟨g, rfl, _⟩ := h
    rfl
  obtain ⟨g, rfl, hg, rfl⟩ := h
  have hu := Room.u70 hr
  refine sj_is (s1_set (i := 1) (d := .list ([[]].map gD)) scParts.nd rfl (pv_lst (pav_cons (pv_tup pav_nil) pav_nil)) (fun _ z => nomatch z)) ?_
  refine sj_cons (s1_forX (i := 2) (fun _ => True) (fun i => [some (gD g), some (.list ((partsU (g.take i) [[]]).map gD)), none, none]) (fun _ => none) rfl scParts.nd rfl (piv_tup (pvn 0 rfl)) PassesOwn.never
    (RLe.refl _) (fun _ => rfl) rfl trivial (fun _ _ _ z => nomatch z) fun i a ha _ => ?_) fun ρ' ω' h => ?_
  · have e : partsU (g.take (i + 1)) [[]] = partsU (g.take i) [[]] ++ (partsU (g.take i) [[]]).map (· ++ [a]) := by
      rw [List.take_add_one, ha, Option.toList_some, partsU_snoc]
    have hz := partsU_small hg i
    refine sj_is (s1_set (i := 1) (d := .list ((partsU (g.take (i + 1)) [[]]).map gD)) scParts.nd rfl (PV.cast (pv_catL (ys := (partsU (g.take i) [[]]).map fun o => gD (o ++ [a])) (by rw [List.length_map, List.length_map]; omega) (pvn 1 rfl)
      (pv_lcX0 (own := [("own", 3)]) 3 (fun o => gD (o ++ [a])) rfl scParts.nd (piv_list (pvn 1 rfl)) (blkOk_by (N := nParts) (sc := defScope sParts) (by decide +kernel)) (by decide) (fun _ _ _ _ _ => pg_name scParts.nd rfl (.inl rfl))
        fun o ho _ _ _ _ _ => PV.cast (pv_catT (ys := [nD a]) (by have := partsU_short hg i o ho; rw [List.length_map]; show o.length + 1 ≤ 100000; omega) (pvn 3 rfl) (pv_tup (pav_cons (pvn 2 rfl) pav_nil))) (by unfold gD; rw [List.map_append]; rfl)))
      (by rw [e, List.map_append, List.map_map]; rfl)) (fun _ z => nomatch z)) (sj_nil ?_)
    exact ⟨trivial, rl_same (rl_same (rl_none (rl_none rl_nil))), rfl, rfl⟩
  · obtain ⟨_, rfl, rfl⟩ := h
    rw [List.take_length]
    exact sj_end (s1_ret (pv_tupleL (pv_sortedL hu (sortOk_gD _) (pvn 1 rfl) ms) mt) (by rw [parts_map]))
abbrev nGroups : List Str := ["holders"]
theorem scGroups : FnScope nGroups ["holders"] (defScope sGroups) := ⟨rfl, rfl, rfl, by decide +kernel, rfl, by decide +kernel, by decide +kernel⟩
theorem ok_groups {f2 : Addr} {fd2 : FuncData} (F : Fun K "groups" "groups" sGroups f fd) (G : FnOk P w K mg base CX0 k f2 fd2 ["group"] (spD fParts)) (g2 : mg "parts" = some (.ref f2)) (k2 : PySem.W.keepIn K (.ref f2) = true) (b2 : Binds K fd2 ["group"] [])
    (mt : mg "tuple" = none) (mr : mg "range" = none) : FnOk P w K mg base CX0 (k + 1) f fd ["holders"] (spD fGroups) := by
  refine fn_ok fGroups F scGroups (by decide) (fun ds r h => ?_) fun cdv A outer s H E ds r hr h => ?_
  · obtain ⟨g, rfl, _⟩ := h
    rfl
  obtain ⟨n, rfl, hn, rfl⟩ := h
  exact sj_end (s1_ret (pv_call G hr g2 k2 b2 (pav_cons (pv_tupRange (n := n) (by omega) rfl (pvn 0 rfl) mt mr) pav_nil) ⟨List.range n, rfl, by rw [List.length_range]; exact hn, rfl⟩) rfl)
abbrev nIsPart : List Str := ["group", "other", "holder"]
theorem scIsPart : FnScope nIsPart ["group", "other"] (defScope sIsPart) := ⟨rfl, rfl, rfl, by decide +kernel, rfl, by decide +kernel, by decide +kernel⟩
theorem ok_isPart (F : Fun K "is_part" "is_part" sIsPart f fd) (ma : mg "all" = none) : FnOk P w K mg base CX0 (k + 1) f fd ["group", "other"] (spD fIsPart) := by
  refine fn_ok fIsPart F scIsPart (by decide) (fun ds r h => ?_) fun cdv A outer s H E ds r hr h => ?_
  · obtain ⟨g, o, rfl, _⟩ := h
    rfl
  obtain ⟨g, o, rfl, rfl⟩ := h
  have hu := Room.u70 hr
  refine sj_end (s1_ret (PV.cast (pv_all (bs := g.map fun h => o.contains h) rfl (PV.cast (pv_lcX0 (own := [("holder", 2)]) 2 (fun h => .bool (o.contains h)) rfl scIsPart.nd (piv_tup (pvn 0 rfl)) (blkOk_by (N := nIsPart) (sc := defScope sIsPart) (by decide +kernel)) (by decide) (fun _ _ _ _ _ => pg_name scIsPart.nd rfl (.inl rfl))
    fun h hh _ _ _ _ _ => pv_in (hr.units) (pvn 2 rfl) (pvn 1 rfl) (nice_nD h).ok (plain_map nice_nD o) rfl (any_eq eqv_nD o h)) (by rw [List.map_map]; rfl)) ma) ?_) rfl)
  unfold isPart
  rw [List.all_map]
  rfl
end
end K42
/-! ## KWay -/
namespace K42
open PySem PySem.Spec L2
open PyProof.Rows hiding St
/-! ### ways as data -/
def tabD (t : Tab) : Da := .tuple true (t.map gD)
def tabsD (ts : List Tab) : Da := .tuple false (ts.map tabD)
def modeD (odd : Bool) : Da := .str (if odd then "odd" else "any")
def wayD (w : Way) : Da := .tuple false [nD w.h, modeD w.odd, tabsD w.tabs]
def lotsD (ls : List (List Nat)) : Da := .tuple false (ls.map gD)
theorem eqv_tabD (a b : Tab) : PyData.eqv (er (tabD a)) (er (tabD b)) = decide (a = b) := eqv_tup eqv_gD _ _ a b
theorem eqv_tabsD (a b : List Tab) : PyData.eqv (er (tabsD a)) (er (tabsD b)) = decide (a = b) := eqv_tup eqv_tabD _ _ a b
theorem eqv_lotsD (a b : List (List Nat)) : PyData.eqv (er (lotsD a)) (er (lotsD b)) = decide (a = b) := eqv_tup eqv_gD _ _ a b
theorem eqv_modeD (a b : Bool) : PyData.eqv (er (modeD a)) (er (modeD b)) = decide (a = b) := by
  cases a <;> cases b <;> decide +kernel
theorem eqv_cons {x y : PyData} {xs ys : List PyData} {p q : Prop} [Decidable p] [Decidable q] (h1 : PyData.eqv x y = decide p) (h2 : PyData.eqvAll xs ys = decide q) : PyData.eqvAll (x :: xs) (y :: ys) = decide (p ∧ q) := by
  rw [PyData.eqvAll, h1, h2, Bool.decide_and]
theorem eqv_nil : PyData.eqvAll [] [] = decide True := by rw [PyData.eqvAll, decide_true]
theorem eqv_wayD (a b : Way) : PyData.eqv (er (wayD a)) (er (wayD b)) = decide (a = b) := by
  unfold wayD
  rw [er, er]
  simp only [erAll]
  simp only [PyData.eqv]
  rw [eqv_cons (eqv_nD _ _) (eqv_cons (eqv_modeD _ _) (eqv_cons (eqv_tabsD _ _) eqv_nil))]
  refine decide_eq_decide.mpr ⟨fun ⟨h1, h2, h3, _⟩ => ?_, fun e => by subst e; exact ⟨rfl, rfl, rfl, trivial⟩⟩
  cases a; cases b
  cases h1; cases h2; cases h3
  rfl
theorem nice_modeD (a : Bool) : Nice 0 (modeD a) := nice_str _
theorem nice_tabD (t : Tab) : Nice 2 (tabD t) := nice_tup (nice_map nice_gD t)
theorem nice_tabsD (t : List Tab) : Nice 3 (tabsD t) := nice_tup (nice_map nice_tabD t)
theorem nice_lotsD (t : List (List Nat)) : Nice 2 (lotsD t) := nice_tup (nice_map nice_gD t)
theorem nice_wayD (w : Way) : Nice 4 (wayD w) := nice_tup fun d hd => by
  rcases List.mem_cons.mp hd with e | hd
  · rw [e]; exact (nice_nD _).mono (by decide)
  rcases List.mem_cons.mp hd with e | hd
  · rw [e]; exact (nice_modeD _).mono (by decide)
  rcases List.mem_cons.mp hd with e | hd
  · rw [e]; exact nice_tabsD _
  · cases hd
theorem alike_tabD (a b : Tab) : PySem.W.alike (er (tabD a)) (er (tabD b)) = true := alike_tup alike_gD _ _ a b
theorem alike_tabsD (a b : List Tab) : PySem.W.alike (er (tabsD a)) (er (tabsD b)) = true := alike_tup alike_tabD _ _ a b
theorem lt_tabD (a b : Tab) : PySem.W.dataLt (er (tabD a)) (er (tabD b)) = ltT a b := dataLt_tup alike_gD eqv_gD lt_gD _ _ a b
theorem lt_tabsD (a b : List Tab) : PySem.W.dataLt (er (tabsD a)) (er (tabsD b)) = ltTs a b := dataLt_tup alike_tabD eqv_tabD lt_tabD _ _ a b
theorem alike_modeD (a b : Bool) : PySem.W.alike (er (modeD a)) (er (modeD b)) = true := by
  cases a <;> cases b <;> decide +kernel
theorem alike_wayD (a b : Way) : PySem.W.alike (er (wayD a)) (er (wayD b)) = true := by
  unfold wayD
  rw [er, er]
  simp only [erAll]
  simp only [PySem.W.alike, PySem.W.alikeAll]
  rw [alike_nD, alike_modeD, alike_tabsD]
  rfl
/-- the order of ways of one size and one mode -/
theorem lt_wayD (h : Nat) (o : Bool) (a b : List Tab) : PySem.W.dataLt (er (wayD ⟨h, o, a⟩)) (er (wayD ⟨h, o, b⟩)) = ltTs a b := by
  unfold wayD
  rw [er, er]
  simp only [erAll]
  refine (PySem.W.dataLt_tuple _ _).trans ?_
  rw [PySem.W.dataLt_all_yes (alike_nD _ _) (by rw [eqv_nD]; exact decide_eq_true rfl)]
  rw [PySem.W.dataLt_all_yes (alike_modeD _ _) (by rw [eqv_modeD]; exact decide_eq_true rfl)]
  show PyProof.Rows.lexLt PyProof.Rows.itemOrd (PySem.W.keyToksAll [er (tabsD a)]) (PySem.W.keyToksAll [er (tabsD b)]) = ltTs a b
  by_cases e : a = b
  · subst e
    rw [PyProof.Rows.lex_irrefl, ← lt_tabsD]
    exact (PyProof.Rows.lex_irrefl _).symm
  · rw [PySem.W.dataLt_all_no (alike_tabsD _ _) (by rw [eqv_tabsD]; exact decide_eq_false e)]
    exact lt_tabsD a b
/-- what stands at a place, and the place -/
theorem pairs_zipIdx {α : Type} (en : α → Da) (xs : List α) : pairsD (upto (xs.map en).length) (xs.map en) = xs.zipIdx.map fun q => .tuple false [nD q.2, en q.1] := by
  refine List.ext_getElem? fun i => ?_
  unfold pairsD
  rw [List.getElem?_zipWith, List.getElem?_map, List.getElem?_map, List.getElem?_zipIdx, List.length_map]
  cases h : xs[i]? with
  | none =>
    rw [Option.map_none, Option.map_none]
    cases (upto xs.length)[i]? <;> rfl
  | some a =>
    have hi := (List.getElem?_eq_some_iff.mp h).1
    unfold upto
    rw [List.getElem?_map, List.getElem?_range hi, Nat.zero_add]
    rfl
theorem take_filter {α : Type} {xs : List α} {k : Nat} {a : α} (h : xs[k]? = some a) (p : α → Bool) : (xs.take (k + 1)).filter p = (xs.take k).filter p ++ if p a = true then [a] else [] := by
  rw [List.take_add_one, h, Option.toList_some, List.filter_append]
  by_cases hp : p a = true
  · rw [if_pos hp, List.filter_cons_of_pos hp, List.filter_nil]
  · rw [if_neg hp, List.filter_cons_of_neg hp, List.filter_nil]

end K42
namespace K42
open PySem PySem.Spec L2
open PyProof.Rows hiding St
/-- what is built in is not hidden -/
structure Bi (mg : Str → Option Value) : Prop where
  tu : mg "tuple" = none
  so : mg "sorted" = none
  ra : mg "range" = none
  le : mg "len" = none
  al : mg "all" = none
  an : mg "any" = none
  mi : mg "min" = none
  ma : mg "max" = none
  su : mg "sum" = none
  en : mg "enumerate" = none
  zi : mg "zip" = none
  li : mg "list" = none
  it : mg "int" = none
  ab : mg "abs" = none
/-- a def of this program -/
def Fn (K : PySem.W.Frag) (mg : Str → Option Value) (x : Str) (st : Stmt) (ps : List Str) : Prop :=
  ∃ f fd, Fun K x x st f fd ∧ mg x = some (.ref f) ∧ PySem.W.keepIn K (.ref f) = true ∧ Binds K fd ps []
/-- a def that keeps its promise, as it is called -/
def Cal (P : Program) (w : World) (K : PySem.W.Frag) (mg : Str → Option Value) (base : Heap) (k : Nat) (x : Str) (ps : List Str) (F : List Da → Da → Prop) : Prop :=
  ∃ f fd, FnOk P w K mg base CX0 k f fd ps (spD F) ∧ mg x = some (.ref f) ∧ PySem.W.keepIn K (.ref f) = true ∧ Binds K fd ps []
section
variable {P : Program} {w : World} {K : PySem.W.Frag} {mg : Str → Option Value} {base : Heap} {k : Nat}
theorem Cal.mono {j : Nat} {x : Str} {ps : List Str} {F : List Da → Da → Prop} (G : Cal P w K mg base j x ps F) (h : j ≤ k) : Cal P w K mg base k x ps F := by
  obtain ⟨f, fd, h1, h2⟩ := G
  exact ⟨f, fd, h1.mono h, h2⟩
theorem cal_of {x : Str} {st : Stmt} {N ps : List Str} (F : Fn K mg x st ps) (Fr : List Da → Da → Prop) (S : FnScope N ps (defScope st)) (hN : ps.length ≤ N.length) (hl : ∀ ds r, Fr ds r → ds.length = ps.length)
    (body : ∀ (f : Addr) (cdv : Value) (A : Around) (outer : List Env) (s : Shared) (H : Hp) (E : XK) (ds : List Da) (r : Da), Room k (A.deeper (envOfC x (defScope st) s.heap.objs.size f cdv)) → (A.deeper (envOfC x (defScope st) s.heap.objs.size f cdv)).units + 70 < cLine → Fr ds r →
      SJ (cxOf CX0 P w K mg base N x (defScope st) f cdv A outer s H E).nox (defBody st) (ds.map some ++ List.replicate (N.length - ds.length) none) none (fun _ _ => False) (fun d => d = r)) :
    Cal P w K mg base (k + 1) x ps Fr := by
  obtain ⟨f, fd, h1, h2, h3, h4⟩ := F
  exact ⟨f, fd, fn_ok Fr h1 S hN hl fun cdv A outer s H E ds r hr => body f cdv A outer s H E ds r hr (Room.u70 hr), h2, h3, h4⟩
variable {X : Cx} {e : Expr} {es : List Expr} {ρ : Rho} {d : Da} {ds : List Da} {p pos : Pos} {x : Str}
theorem pv_c {ps : List Str} {F : List Da → Da → Prop} (G : Cal X.prog X.w X.K X.mg X.base k x ps F) (hr : Room k X.A) (ha : PAV X (e :: es) ρ ds) (h : F ds d) (hg : Gl X x := by rfl) (hdb : (x == ("__debug__" : Str)) = false := by decide) (h1 : starEach (e :: es) X.env = (false, eval e X.env) :: starEach es X.env := by rfl) (h2 : (backTo pos (starEach es X.env)).any (·.1) = false := by rfl) :
    PV X (.Call (.Name x p) (e :: es) [] pos) ρ d := by
  obtain ⟨f, fd, g1, g2, g3, g4⟩ := G
  exact pv_call g1 hr g2 g3 g4 ha h hg hdb h1 h2
theorem fn_fun {qual : Str} {st : Stmt} {ps : List Str} (F : Fn K mg qual st ps) {Fr : List Da → Da → Prop} (h : ∀ f fd, Fun K qual qual st f fd → FnOk P w K mg base CX0 k f fd ps (spD Fr)) : Cal P w K mg base k qual ps Fr := by
  obtain ⟨f, fd, h1, h2, h3, h4⟩ := F
  exact ⟨f, fd, h f fd h1, h2, h3, h4⟩
end
end K42
namespace K42
open PySem PySem.Spec L2
open PyProof.Rows hiding St
theorem nice_nilL : Nice 1 (.list []) := nice_lst (n := 0) fun d hd => by cases hd
theorem beq_dec {α : Type} [DecidableEq α] [BEq α] [LawfulBEq α] (a b : α) : decide (a = b) = (a == b) := by
  rw [Bool.eq_iff_iff, decide_eq_true_eq, beq_iff_eq]
theorem bne_dec {α : Type} [DecidableEq α] [BEq α] [LawfulBEq α] (a b : α) : (!decide (a = b)) = (a != b) := by
  rw [bne, beq_dec]
end K42
/-! ## KRule -/
namespace K42
open PySem PySem.Spec L2
open PyProof.Rows hiding St
theorem ixN_nat {n j : Nat} (h : j < n) : ixN n (j : Int) = some j := by
  unfold ixN
  rw [if_pos (by omega), if_pos (by omega)]
  simp
section
variable {X : Cx} {e e2 o : Expr} {es : List Expr} {ρ : Rho} {ω : Own} {d : Da} {ds : List Da} {pos : Pos} {N : Rho → Own → Prop} {R : Da → Prop} {sts : List Stmt}
theorem not_dx {G : Hp} {p : Addr} {d : Da} (h : G p = none) (hd : ∃ xs ds, d = Da.list xs ∨ d = Da.tuple ds xs) : ¬ Dx G (.ref p) d := fun q => by
  obtain ⟨xs, k, e | e⟩ := hd
  · subst e
    cases q with
    | lst h1 h2 => rw [h] at h1; cases h1
  · subst e
    cases q with
    | tup h1 h2 =>
      cases k with
      | false => rw [show G p = some _ from h1] at h; cases h
      | true =>
        obtain ⟨ob, h1, _⟩ := h1
        rw [h] at h1
        cases h1
/-- found[a], found[b] = e: the owned list -/
theorem s1_swap {x y z : Str} {f i j : Nat} {p1 p2 p3 p4 p5 p6 pt : Pos} {kt m n : Nat} {k : Bool} {da db : Da} (hc : X.calm = true) (hf : X.N[f]? = some x) (hi : X.N[i]? = some y) (hj : X.N[j]? = some z) (h : PV X e ρ (.tuple k [da, db])) (hm : ρ[i]? = some (some (nD m))) (hn : ρ[j]? = some (some (nD n))) (hml : m < ds.length) (hnl : n < ds.length)
    (vf : Vis X.env.scope x := by first | exact Or.inl rfl | exact Or.inr (Or.inl rfl)) (vi : Vis X.env.scope y := by first | exact Or.inl rfl | exact Or.inr (Or.inl rfl)) (vj : Vis X.env.scope z := by first | exact Or.inl rfl | exact Or.inr (Or.inl rfl))
    (d1 : (x == ("__debug__" : Str)) = false := by decide) (d2 : (y == ("__debug__" : Str)) = false := by decide) (d3 : (z == ("__debug__" : Str)) = false := by decide) (c1 : (x == ("__classdict__" : Str)) = false := by decide) (c2 : (y == ("__classdict__" : Str)) = false := by decide) (c3 : (z == ("__classdict__" : Str)) = false := by decide)
    (h1 : (assignEach [.Subscript (.Name x p1) (.Name y p2) p3, .Subscript (.Name x p4) (.Name z p5) p6] X.env).length = 2 := by rfl) (h2 : (assignEach [.Subscript (.Name x p1) (.Name y p2) p3, .Subscript (.Name x p4) (.Name z p5) p6] X.env).findIdx? (·.1) = none := by rfl)
    (e1 : (assignEach [.Subscript (.Name x p1) (.Name y p2) p3, .Subscript (.Name x p4) (.Name z p5) p6] X.env).map (·.2) = assign (.Subscript (.Name x p1) (.Name y p2) p3) X.env :: (assignEach [.Subscript (.Name x p4) (.Name z p5) p6] X.env).map (·.2) := by rfl) (e2 : (assignEach [.Subscript (.Name x p4) (.Name z p5) p6] X.env).map (·.2) = assign (.Subscript (.Name x p4) (.Name z p5) p6) X.env :: (assignEach [] X.env).map (·.2) := by rfl)
    (hs : swapsWithSole [.Tuple [.Subscript (.Name x p1) (.Name y p2) p3, .Subscript (.Name x p4) (.Name z p5) p6] kt pt] e pos.line X.env = pure false := by rfl) (hw : swappedStores [.Tuple [.Subscript (.Name x p1) (.Name y p2) p3, .Subscript (.Name x p4) (.Name z p5) p6] kt pt] e X.env = pure none := by rfl)
    (h3 : (assignEach [.Tuple [.Subscript (.Name x p1) (.Name y p2) p3, .Subscript (.Name x p4) (.Name z p5) p6] kt pt] X.env).map (·.2) = [assign (.Tuple [.Subscript (.Name x p1) (.Name y p2) p3, .Subscript (.Name x p4) (.Name z p5) p6] kt pt) X.env] := by rfl) :
    S1 X (.Assign [.Tuple [.Subscript (.Name x p1) (.Name y p2) p3, .Subscript (.Name x p4) (.Name z p5) p6] kt pt] e pos) ρ (some (f, ds)) (Is ρ (some (f, (ds.set m da).set n db))) R :=
  PS.s1 (ps_asg (pe_w e) (pg_tup hc (pgs_cons (pg_sub (pe_var hf vf d1 c1) (pe_var hi vi d2 c2) set_list) (pgs_cons (pg_sub (pe_var hf vf d1 c1) (pe_var hj vj d3 c3) set_list) pgs_nil e2) e1) h1 h2) hs hw h3) fun G0 H0 G H σ D s hq hr => h σ G H _ s.ext.gh s.len s.env fun v G1 H1 x1 dv => by
    have s1 := s.step x1
    obtain ⟨p, vs, k1, k2, k3, k4, k5⟩ := s1.own f ds rfl
    obtain ⟨vi', i1, i2⟩ := s1.env i _ hm
    obtain ⟨vj', j1, j2⟩ := s1.env j _ hn
    cases i2
    cases j2
    cases dv with
    | tup t1 t2 =>
      cases t2 with
      | cons a1 t2 =>
        cases t2 with
        | cons b1 t2 =>
          cases t2
          rename_i ta va vb
          have hl := k3.length
          refine ⟨_, _, rfl, (t1.mono x1.gh).sqt, rfl, _, _, rfl, .ref p, k1, .int (m : Int), i1, p, vs, (m : Int), m, rfl, rfl, k2, ixN_nat (by omega), ?_⟩
          refine ⟨_, _, rfl, .ref p, k1, .int (n : Int), j1, p, vs.set m va, (n : Int), n, rfl, rfl, upd_same, ixN_nat (by rw [List.length_set]; omega), rfl, ?_⟩
          have c1 := (s1.change k1 (Ext.refl s1.ext.gh) (k3.set a1 m))
          have c2 := c1.change k1 (Ext.refl c1.ext.gh) ((k3.set a1 m).set b1 n)
          exact hq σ G1 _ _ _ ⟨rfl, rfl⟩ c2 (x1.gg s.ext.gh)
/-- x, y = a, [] : the second one is owned -/
theorem s1_pairOwn {x y : Str} {i j : Nat} {a : Expr} {p1 p2 p3 p4 pt : Pos} {kt k2 : Nat} {da : Da} (hc : X.calm = true) (hn : X.N.Nodup) (hi : X.N[i]? = some x) (hj : X.N[j]? = some y) (hij : i ≠ j) (hjr : j < ρ.length) (h : PV X a ρ da)
    (lx : Loc X.env.scope x := by first | exact Or.inl rfl | exact Or.inr rfl) (ly : Loc X.env.scope y := by first | exact Or.inl rfl | exact Or.inr rfl) (fx : X.fn x = true ∨ X.env.scope.names.lookup x = some .local := by first | exact .inl rfl | exact .inr rfl | assumption) (fy : X.fn y = true ∨ X.env.scope.names.lookup y = some .local := by first | exact .inl rfl | exact .inr rfl | assumption)
    (ha : starEach [a, .List [] p3] X.env = (false, eval a X.env) :: starEach [.List [] p3] X.env := by rfl) (ha2 : starEach [.List [] p3] X.env = (false, eval (.List [] p3) X.env) :: starEach [] X.env := by rfl)
    (h1 : (assignEach [.Name x p1, .Name y p2] X.env).length = 2 := by rfl) (h2 : (assignEach [.Name x p1, .Name y p2] X.env).findIdx? (·.1) = none := by rfl)
    (e1 : (assignEach [.Name x p1, .Name y p2] X.env).map (·.2) = assign (.Name x p1) X.env :: (assignEach [.Name y p2] X.env).map (·.2) := by rfl) (e2 : (assignEach [.Name y p2] X.env).map (·.2) = assign (.Name y p2) X.env :: (assignEach [] X.env).map (·.2) := by rfl)
    (hs : swapsWithSole [.Tuple [.Name x p1, .Name y p2] kt pt] (.Tuple [a, .List [] p3] k2 p4) pos.line X.env = pure false := by rfl) (hw : swappedStores [.Tuple [.Name x p1, .Name y p2] kt pt] (.Tuple [a, .List [] p3] k2 p4) X.env = pure none := by rfl)
    (h3 : (assignEach [.Tuple [.Name x p1, .Name y p2] kt pt] X.env).map (·.2) = [assign (.Tuple [.Name x p1, .Name y p2] kt pt) X.env] := by rfl) :
    S1 X (.Assign [.Tuple [.Name x p1, .Name y p2] kt pt] (.Tuple [a, .List [] p3] k2 p4) pos) ρ none (Is ((ρ.set i (some da)).set j none) (some (j, []))) R :=
  PS.s1 (ps_asg (pe_tup (pa_cons (pe_w a) (pa_cons (pe_lst (pos := p3) pa_nil) pa_nil ha2) ha)) (pg_tup hc (pgs_cons (pg_name hn hi lx fx) (pgs_cons (pg_name hn hj ly fy) pgs_nil e2) e1) h1 h2) hs hw h3) fun G0 H0 G H σ D s hq hr => h σ G H _ s.ext.gh s.len s.env fun v G1 H1 x1 dv => by
    refine ⟨Nat.zero_le _, fun q hqn => ⟨by rw [sizeLine_eq]; exact Nat.le_of_ble_eq_true rfl, fun t ht => ?_⟩⟩
    have s1 := s.step x1
    have gq : G1 q = none := x1.gh.free hqn
    have tq : t ≠ q := fun z => by
      subst z
      rw [upd_same] at ht
      cases ht
    have ht1 : H1 t = none := by rw [upd_ne tq] at ht; exact ht
    refine ⟨t, _, rfl, .inl (.inl upd_same), rfl, _, _, rfl, _, _, rfl, rfl, ?_⟩
    -- the list q, the pair t (not tracked)
    have s2 : SOk G0 H0 G1 H1 (σ.set i (some v)) (ρ.set i (some da)) none := s1.set (fun _ z => nomatch z) dv
    have x2 : Ext G1 H1 G1 (upd (upd H1 q (.lst [])) t (.tup [v, .ref q])) :=
      ⟨(same_upd hqn).trans (same_upd ht), same_updR (same_updR x1.gh gq) (x1.gh.free ht1), fun _ _ => rfl⟩
    have s3 := s2.owns (i := j) (p := q) (vs := []) (ds := []) (Nat.lt_of_lt_of_le (by rw [List.length_set]; exact hjr) s2.len) x2 hqn gq (by rw [upd_ne (fun z => tq z.symm)]; exact upd_same) .nil
    exact hq _ G1 _ _ _ ⟨rfl, rfl⟩ s3 (x1.gg s.ext.gh)
end
end K42
/-! ## KDefB -/
namespace K42
open PySem PySem.Spec L2
open PyProof.Rows hiding St
abbrev sIsDark : Stmt := topS 10
abbrev sLightOf : Stmt := topS 11
abbrev sLight : Stmt := topS 12
abbrev sCutOf : Stmt := topS 13
abbrev sInLots : Stmt := topS 14
abbrev sTold : Stmt := topS 15
abbrev sShown : Stmt := topS 16
def fDots : List Da → Da → Prop := fun ds r => ∃ (w : Way) (t : Tab) (ts : List Tab), ds = [wayD w] ∧ w.tabs = t :: ts ∧ r = nD t.length
def fIsDark : List Da → Da → Prop := fun ds r => ∃ (odd : Bool) (dot g : Grp), ds = [modeD odd, gD dot, gD g] ∧ r = .bool (isDark odd dot g)
def fLightOf : List Da → Da → Prop := fun ds r => ∃ (odd : Bool) (t : Tab) (g : Grp), ds = [modeD odd, tabD t, gD g] ∧ r = nD (lightOf odd t g)
def fLight : List Da → Da → Prop := fun ds r => ∃ (w : Way) (i : Nat) (g : Grp), ds = [wayD w, nD i, gD g] ∧ i < w.tabs.length ∧ r = nD (light w i g)
def fCutOf : List Da → Da → Prop := fun ds r => ∃ (t : Tab) (g : Grp), ds = [tabD t, gD g] ∧ r = lotsD (cutOf t g)
def fInLots : List Da → Da → Prop := fun ds r => ∃ (α : Type) (_ : DecidableEq α) (en : α → Da) (xs : List α), (∀ a b, PyData.eqv (er (en a)) (er (en b)) = decide (a = b)) ∧ (∀ a, Nice 10 (en a)) ∧ xs.length ≤ 100 ∧ ds = [.list (xs.map en)] ∧ r = lotsD (inLots xs)
def fTold : List Da → Da → Prop := fun ds r => ∃ (w : Way) (g : Grp), ds = [wayD w, gD g] ∧ w.tabs.length ≤ 100 ∧ r = lotsD (told w g)
def fShown : List Da → Da → Prop := fun ds r => ∃ (w : Way) (g : Grp), ds = [wayD w, gD g] ∧ w.tabs.length ≤ 100 ∧ r = lotsD (shown w g)
theorem getD_at {α : Type} {l : List α} {i : Nat} {d : α} (h : i < l.length) : l.getD i d = l[i] := by
  rw [List.getD_eq_getElem?_getD, List.getElem?_eq_getElem h]
  rfl
section
variable {P : Program} {w : World} {K : PySem.W.Frag} {mg : Str → Option Value} {base : Heap} {k : Nat}
abbrev nDots : List Str := ["way"]
theorem scDots : FnScope nDots ["way"] (defScope sDots) := ⟨rfl, rfl, rfl, by decide +kernel, rfl, by decide +kernel, by decide +kernel⟩
theorem c_dots (F : Fn K mg "dots" sDots ["way"]) (B : Bi mg) : Cal P w K mg base (k + 1) "dots" ["way"] fDots := by
  refine cal_of F fDots scDots (by decide) (fun ds r h => ?_) fun f cdv A outer s H E ds r hr hu h => ?_
  · obtain ⟨w, t, ts, rfl, _⟩ := h
    rfl
  obtain ⟨w, t, ts, rfl, e, rfl⟩ := h
  refine sj_end (s1_ret (PV.cast (pv_lenT (pv_ixT (pv_ixT (pvn 0 rfl) (pv_int (i := 2)) (j := 2) rfl rfl) (pv_int (i := 0)) (j := 0) rfl (by rw [e]; rfl)) B.le) ?_) rfl)
  rw [List.length_map]
  rfl
abbrev nIsDark : List Str := ["mode", "dot", "group", "many", "holder"]
theorem scIsDark : FnScope nIsDark ["mode", "dot", "group"] (defScope sIsDark) := ⟨rfl, rfl, rfl, by decide +kernel, rfl, by decide +kernel, by decide +kernel⟩
theorem c_isDark (F : Fn K mg "is_dark" sIsDark ["mode", "dot", "group"]) (B : Bi mg) : Cal P w K mg base (k + 1) "is_dark" ["mode", "dot", "group"] fIsDark := by
  refine cal_of F fIsDark scIsDark (by decide) (fun ds r h => ?_) fun f cdv A outer s H E ds r hr hu h => ?_
  · obtain ⟨_, _, _, rfl, _⟩ := h
    rfl
  obtain ⟨odd, dot, g, rfl, rfl⟩ := h
  refine sj_is (s1_set (i := 3) (d := nD (meets dot g).length) scIsDark.nd rfl (PV.cast (pv_lenL (pv_lcX (own := [("holder", 4)]) 4 (fun x => g.contains x) nD rfl scIsDark.nd (piv_tup (pvn 1 rfl)) (blkOk_by (N := nIsDark) (sc := defScope sIsDark) (by decide +kernel)) (by decide) (fun _ _ _ _ _ => pg_name (FnScope.nd scIsDark) rfl (.inl rfl))
    (fun a _ _ _ _ _ _ => pts1 (ptv_in hr.units (pvn 4 rfl) (pvn 2 rfl) (nice_nD a).ok (plain_map nice_nD g) rfl (any_eq eqv_nD g a))) (fun a _ _ _ _ _ _ _ => pvn 4 rfl)) B.le) (by rw [List.length_map]; rfl)) (fun _ z => nomatch z)) ?_
  refine sj_end (s1_ret (PV.cast (pv_ifExp (ptv_eq hr.units (pvn 0 rfl) pv_str (nice_modeD odd).ok (nice_str _).ok (c := !odd) (by cases odd <;> decide +kernel))
    (fun _ => pv_gtI (pvn 3 rfl) pv_int) (fun _ => pv_eq hr.units (pv_modI (by decide) (pvn 3 rfl) pv_int) pv_int (nice_int _).ok (nice_int _).ok rfl)) ?_) rfl)
  unfold isDark
  cases odd with
  | false =>
    show Da.bool _ = Da.bool _
    congr 1
    exact decide_eq_decide.mpr (by omega)
  | true =>
    show Da.bool _ = Da.bool _
    congr 1
    rw [er, er]
    simp only [PyData.eqv]
    show _ = ((meets dot g).length % 2 == 1)
    rw [Bool.eq_iff_iff, beq_iff_eq, beq_iff_eq]
    omega
abbrev nLightOf : List Str := ["mode", "table", "group", "dot"]
theorem scLightOf : FnScope nLightOf ["mode", "table", "group"] (defScope sLightOf) := ⟨rfl, rfl, rfl, by decide +kernel, rfl, by decide +kernel, by decide +kernel⟩
theorem c_lightOf (F : Fn K mg "light_of" sLightOf ["mode", "table", "group"]) (B : Bi mg) (C : Cal P w K mg base k "is_dark" ["mode", "dot", "group"] fIsDark) : Cal P w K mg base (k + 1) "light_of" ["mode", "table", "group"] fLightOf := by
  refine cal_of F fLightOf scLightOf (by decide) (fun ds r h => ?_) fun f cdv A outer s H E ds r hr hu h => ?_
  · obtain ⟨_, _, _, rfl, _⟩ := h
    rfl
  obtain ⟨odd, t, g, rfl, rfl⟩ := h
  refine sj_end (s1_ret (PV.cast (pv_lenL (pv_lcX (own := [("dot", 3)]) 3 (fun dot => !isDark odd dot g) (fun _ => .int 1) rfl scLightOf.nd (piv_tup (pvn 1 rfl)) (blkOk_by (N := nLightOf) (sc := defScope sLightOf) (by decide +kernel)) (by decide) (fun _ _ _ _ _ => pg_name (FnScope.nd scLightOf) rfl (.inl rfl))
    (fun a _ _ _ _ _ _ => pts1 (ptv_not (ptv_val (pv_c C hr (pav_cons (pvn 0 rfl) (pav_cons (pvn 3 rfl) (pav_cons (pvn 2 rfl) pav_nil))) ⟨odd, a, g, rfl, rfl⟩)))) (fun a _ _ _ _ _ _ _ => pv_int)) B.le) ?_) rfl)
  rw [List.length_map]
  rfl
abbrev nLight : List Str := ["way", "tone", "group"]
theorem scLight : FnScope nLight ["way", "tone", "group"] (defScope sLight) := ⟨rfl, rfl, rfl, by decide +kernel, rfl, by decide +kernel, by decide +kernel⟩
theorem c_light (F : Fn K mg "light" sLight ["way", "tone", "group"]) (C : Cal P w K mg base k "light_of" ["mode", "table", "group"] fLightOf) : Cal P w K mg base (k + 1) "light" ["way", "tone", "group"] fLight := by
  refine cal_of F fLight scLight (by decide) (fun ds r h => ?_) fun f cdv A outer s H E ds r hr hu h => ?_
  · obtain ⟨_, _, _, rfl, _⟩ := h
    rfl
  obtain ⟨w, i, g, rfl, hi, rfl⟩ := h
  refine sj_end (s1_ret (pv_c C hr (pav_cons (pv_ixT (pvn 0 rfl) (pv_int (i := 1)) (j := 1) rfl rfl) (pav_cons (pv_ixT (d := tabD w.tabs[i]) (pv_ixT (d := tabsD w.tabs) (pvn 0 rfl) (pv_int (i := 2)) (j := 2) rfl rfl) (pvn 1 rfl) (j := i) rfl (by rw [List.getElem?_map, List.getElem?_eq_getElem hi]; rfl)) (pav_cons (pvn 2 rfl) pav_nil)))
    ⟨w.odd, w.tabs[i], g, rfl, ?_⟩) rfl)
  unfold light
  rw [getD_at hi]
abbrev nCutOf : List Str := ["table", "group", "dot", "holder"]
theorem scCutOf : FnScope nCutOf ["table", "group"] (defScope sCutOf) := ⟨rfl, rfl, rfl, by decide +kernel, rfl, by decide +kernel, by decide +kernel⟩
theorem c_cutOf (F : Fn K mg "cut_of" sCutOf ["table", "group"]) (B : Bi mg) : Cal P w K mg base (k + 1) "cut_of" ["table", "group"] fCutOf := by
  refine cal_of F fCutOf scCutOf (by decide) (fun ds r h => ?_) fun f cdv A outer s H E ds r hr hu h => ?_
  · obtain ⟨_, _, rfl, _⟩ := h
    rfl
  obtain ⟨t, g, rfl, rfl⟩ := h
  refine sj_end (s1_ret (PV.cast (pv_tupleL (pv_sortedL hu (sortOk_gD (t.map fun dot => meets dot g)) (PV.cast (pv_lcX0 (own := [("dot", 2)]) 2 (fun dot => gD (meets dot g)) rfl scCutOf.nd (piv_tup (pvn 0 rfl)) (blkOk_by (N := nCutOf) (sc := defScope sCutOf) (by decide +kernel)) (by decide) (fun _ _ _ _ _ => pg_name (FnScope.nd scCutOf) rfl (.inl rfl))
    (fun a _ _ _ _ _ _ => pv_tupleL (pv_lcX (own := [("holder", 3)]) 3 (fun x => g.contains x) nD rfl scCutOf.nd (piv_tup (pvn 2 rfl)) (blkOk_by (N := nCutOf) (by kernel_rfl)) (by decide) (fun _ _ _ _ _ => pg_name (FnScope.nd scCutOf) rfl (.inl rfl))
      (fun a _ _ _ _ _ _ => pts1 (ptv_in hr.units (pvn 3 rfl) (pvn 1 rfl) (nice_nD a).ok (plain_map nice_nD g) rfl (any_eq eqv_nD g a))) (fun a _ _ _ _ _ _ _ => pvn 3 rfl)) B.tu)) (by rw [List.map_map]; rfl)) B.so) B.tu) ?_) rfl)
  rw [msort_map lt_gD]
  rfl
abbrev nInLots : List Str := ["things", "found", "number", "thing", "lot", "at", "other"]
theorem scInLots : FnScope nInLots ["things"] (defScope sInLots) := ⟨rfl, rfl, rfl, by decide +kernel, rfl, by decide +kernel, by decide +kernel⟩
theorem mem_lot {α : Type} [DecidableEq α] {xs : List α} {x : α} (h : x ∈ xs) : ∃ a r, lotOf xs x = a :: r := by
  cases e : lotOf xs x with
  | cons a r => exact ⟨a, r, rfl⟩
  | nil =>
    exfalso
    obtain ⟨i, hi, rfl⟩ := List.mem_iff_getElem.mp h
    unfold lotOf at e
    have e2 := List.map_eq_nil_iff.mp e
    have := List.filter_eq_nil_iff.mp e2 (xs[i], i) (by rw [List.mem_zipIdx_iff_getElem?]; exact List.getElem?_eq_getElem hi)
    exact this (by simp)
theorem lot_small {α : Type} [DecidableEq α] {xs : List α} {x : α} : (lotOf xs x).length ≤ xs.length := by
  unfold lotOf
  rw [List.length_map]
  exact Nat.le_trans (List.length_filter_le _ _) (by rw [List.length_zipIdx]; exact Nat.le_refl _)
theorem c_inLots (F : Fn K mg "in_lots" sInLots ["things"]) (B : Bi mg) : Cal P w K mg base (k + 1) "in_lots" ["things"] fInLots := by
  refine cal_of F fInLots scInLots (by decide) (fun ds r h => ?_) fun f cdv A outer s H E ds r hr hu h => ?_
  · obtain ⟨_, _, _, _, _, _, _, rfl, _⟩ := h
    rfl
  obtain ⟨α, _, en, xs, heq, hni, hz, rfl, rfl⟩ := h
  let ok : α × Nat → Bool := fun q => (lotOf xs q.1)[0]? == some q.2
  refine sj_is (s1_own (i := 1) scInLots.nd rfl (Nat.le_of_ble_eq_true rfl) pnv_nil) ?_
  refine sj_cons (s1_forX2 (i := 2) (j := 3) (xs := xs.zipIdx) (en := fun q => nD q.2) (en' := fun q => en q.1) (fun _ => True) (fun _ => [some (.list (xs.map en)), none, none, none, none, none, none]) (fun i => some (1, (((xs.zipIdx.take i).filter ok).map fun q => gD (lotOf xs q.1)))) rfl scInLots.nd rfl rfl
    (pairs_zipIdx en xs ▸ piv_enum (pvn 0 rfl) rfl B.en) PassesOwn.never (RLe.refl _) (fun _ => rfl) rfl trivial (fun i l es z => by cases z; exact ⟨by decide, by decide⟩) (fun i a ha _ => ?_)
    (pg_pair rfl scInLots.nd rfl rfl (.inl rfl) (.inr rfl))) fun ρ' ω' h => ?_
  · have hm : a ∈ xs.zipIdx := List.mem_of_getElem? ha
    have hmx : a.1 ∈ xs := by
      obtain ⟨x, i⟩ := a
      exact List.mem_of_getElem? (List.mem_zipIdx_iff_getElem?.mp hm)
    obtain ⟨h0, r0, e0⟩ := mem_lot hmx
    have st := take_filter ha ok
    refine sj_is (s1_set (i := 4) (d := gD (lotOf xs a.1)) scInLots.nd rfl (pv_tupleL (PV.cast (pv_lcX2 (own := [("at", 5), ("other", 6)]) (xs := xs.zipIdx) (en := fun q => nD q.2) (en' := fun q => en q.1) 5 6 (fun q => decide (q.1 = a.1)) (fun q => nD q.2) rfl scInLots.nd (pairs_zipIdx en xs ▸ piv_enum (pvn 0 rfl) rfl B.en) (blkOk_by (N := nInLots) (sc := defScope sInLots) (by decide +kernel)) (by decide) (by decide)
      (fun _ _ _ _ _ => pg_pair rfl scInLots.nd rfl rfl (.inl rfl) (.inl rfl)) (fun q _ _ _ _ _ _ => pts1 (ptv_eq hr.units (pvn 6 rfl) (pvn 3 rfl) (hni _).ok (hni _).ok (heq _ _))) (fun q _ _ _ _ _ _ _ => pvn 5 rfl)) (by unfold lotOf; rw [List.map_map]; rfl)) B.tu) (fun _ z => by cases z)) ?_
    refine sj_one (s1_if (ptv_eq hr.units (pv_ixT (pvn 4 rfl) (pv_int (i := 0)) (j := 0) (d := nD h0) rfl (by rw [e0]; rfl)) (pvn 2 rfl) (nice_nD _).ok (nice_nD _).ok (eqv_nD _ _)) (fun hb => ?_) fun hb => ?_)
    · have hb' : ok a = true := by
        show ((lotOf xs a.1)[0]? == some a.2) = true
        rw [e0]
        simpa using hb
      rw [hb', if_pos rfl] at st
      refine sj_is (s1_append rfl (by
        rw [List.length_map]
        refine Nat.le_trans (List.length_filter_le _ _) (Nat.le_trans (List.length_take_le _ _) ?_)
        have := (List.getElem?_eq_some_iff.mp ha).1
        rw [List.length_zipIdx] at this
        omega) (pvn 4 rfl)) (sj_nil ?_)
      exact ⟨trivial, rl_same (rl_none (rl_none (rl_none (rl_none (rl_none (rl_none rl_nil)))))), rfl, by rw [st, List.map_append]; rfl⟩
    · have hb' : ok a = false := by
        show ((lotOf xs a.1)[0]? == some a.2) = false
        rw [e0]
        simpa using hb
      rw [hb', if_neg Bool.false_ne_true, List.append_nil] at st
      refine sj_nil ?_
      exact ⟨trivial, rl_same (rl_none (rl_none (rl_none (rl_none (rl_none (rl_none rl_nil)))))), rfl, by rw [st]⟩
  · obtain ⟨_, rfl, rfl⟩ := h
    rw [List.take_length]
    refine sj_freeze (sj_end (s1_ret (pv_tupleL (pvn 1 rfl) B.tu) ?_))
    show Da.tuple false _ = lotsD _
    unfold lotsD inLots
    rw [List.map_map]
    rfl
abbrev nTold : List Str := ["way", "group", "table"]
theorem scTold : FnScope nTold ["way", "group"] (defScope sTold) := ⟨rfl, rfl, rfl, by decide +kernel, rfl, by decide +kernel, by decide +kernel⟩
theorem c_told (F : Fn K mg "told" sTold ["way", "group"]) (C : Cal P w K mg base k "cut_of" ["table", "group"] fCutOf) (D : Cal P w K mg base k "in_lots" ["things"] fInLots) : Cal P w K mg base (k + 1) "told" ["way", "group"] fTold := by
  refine cal_of F fTold scTold (by decide) (fun ds r h => ?_) fun f cdv A outer s H E ds r hr hu h => ?_
  · obtain ⟨_, _, rfl, _⟩ := h
    rfl
  obtain ⟨w, g, rfl, hz, rfl⟩ := h
  refine sj_end (s1_ret (pv_c D hr (pav_cons (PV.cast (pv_lcX0 (own := [("table", 2)]) 2 (fun t => lotsD (cutOf t g)) rfl scTold.nd (piv_tup (pv_ixT (d := tabsD w.tabs) (pvn 0 rfl) (pv_int (i := 2)) (j := 2) rfl rfl)) (blkOk_by (N := nTold) (sc := defScope sTold) (by decide +kernel)) (by decide) (fun _ _ _ _ _ => pg_name (FnScope.nd scTold) rfl (.inl rfl))
    (fun t _ _ _ _ _ _ => pv_c C hr (pav_cons (pvn 2 rfl) (pav_cons (pvn 1 rfl) pav_nil)) ⟨t, g, rfl, rfl⟩)) (d' := .list ((w.tabs.map fun t => cutOf t g).map lotsD)) (by rw [List.map_map]; rfl)) pav_nil) ⟨_, inferInstance, lotsD, w.tabs.map fun t => cutOf t g, eqv_lotsD, fun a => (nice_lotsD a).mono (by decide), by rw [List.length_map]; exact hz, rfl, rfl⟩) rfl)
abbrev nShown : List Str := ["way", "group", "table"]
theorem scShown : FnScope nShown ["way", "group"] (defScope sShown) := ⟨rfl, rfl, rfl, by decide +kernel, rfl, by decide +kernel, by decide +kernel⟩
theorem c_shown (F : Fn K mg "shown" sShown ["way", "group"]) (C : Cal P w K mg base k "light_of" ["mode", "table", "group"] fLightOf) (D : Cal P w K mg base k "in_lots" ["things"] fInLots) : Cal P w K mg base (k + 1) "shown" ["way", "group"] fShown := by
  refine cal_of F fShown scShown (by decide) (fun ds r h => ?_) fun f cdv A outer s H E ds r hr hu h => ?_
  · obtain ⟨_, _, rfl, _⟩ := h
    rfl
  obtain ⟨w, g, rfl, hz, rfl⟩ := h
  refine sj_end (s1_ret (pv_c D hr (pav_cons (PV.cast (pv_lcX0 (own := [("table", 2)]) 2 (fun t => nD (lightOf w.odd t g)) rfl scShown.nd (piv_tup (pv_ixT (d := tabsD w.tabs) (pvn 0 rfl) (pv_int (i := 2)) (j := 2) rfl rfl)) (blkOk_by (N := nShown) (sc := defScope sShown) (by decide +kernel)) (by decide) (fun _ _ _ _ _ => pg_name (FnScope.nd scShown) rfl (.inl rfl))
    (fun t _ _ _ _ _ _ => pv_c C hr (pav_cons (pv_ixT (d := modeD w.odd) (pvn 0 rfl) (pv_int (i := 1)) (j := 1) rfl rfl) (pav_cons (pvn 2 rfl) (pav_cons (pvn 1 rfl) pav_nil))) ⟨w.odd, t, g, rfl, rfl⟩)) (d' := .list ((w.tabs.map fun t => lightOf w.odd t g).map nD)) (by rw [List.map_map]; rfl)) pav_nil) ⟨_, inferInstance, nD, w.tabs.map fun t => lightOf w.odd t g, eqv_nD, fun a => (nice_nD a).mono (by decide), by rw [List.length_map]; exact hz, rfl, rfl⟩) rfl)
end
end K42
/-! ## KDefC -/
namespace K42
open PySem PySem.Spec L2
open PyProof.Rows hiding St
abbrev sUnlike : Stmt := topS 17
abbrev sIsBlind : Stmt := topS 18
abbrev sGreatest : Stmt := topS 19
abbrev sLeast : Stmt := topS 20
abbrev sBlind : Stmt := topS 21
abbrev sSighted : Stmt := topS 22
/-- the least of a list of data -/
theorem minA_map {α : Type} {f : α → Da} {lt : α → α → Bool} (hl : ∀ a b, PySem.W.dataLt (er (f a)) (er (f b)) = lt a b) : ∀ (xs : List α) (x : α), minA (f x) (xs.map f) = f (minL lt x xs)
  | [], x => rfl
  | y :: ys, x => by
    have ih := minA_map hl ys (if lt y x then y else x)
    unfold minA minL at ih ⊢
    rw [List.map_cons, List.foldl_cons, List.foldl_cons, ← ih, hl]
    congr 1
    split <;> rfl
theorem minOk_map {α : Type} {f : α → Da} {n : Nat} (h : ∀ a b, PySem.W.alike (er (f a)) (er (f b)) = true) (hn : ∀ a, Nice n (f a)) (l : n ≤ 60) (hi : ∀ a b, er (f a) = er (f b) → a = b) (h0 : ∀ a, er (f a) ≠ .none) (x : α) (xs : List α) : MinOk (f x) (xs.map f) where
  alk := fun d hd e he => by
    obtain ⟨a, _, rfl⟩ := List.mem_map.mp (show d ∈ (x :: xs).map f from hd)
    obtain ⟨b, _, rfl⟩ := List.mem_map.mp (show e ∈ (x :: xs).map f from he)
    exact h a b
  non := fun d hd => by
    obtain ⟨a, _, rfl⟩ := List.mem_map.mp (show d ∈ (x :: xs).map f from hd)
    exact h0 a
  dep := Nat.le_trans (niceAll (nice_map hn (x :: xs))).2 l
  pl := (niceAll (nice_map hn (x :: xs))).1
  inj := fun d hd e he => by
    obtain ⟨a, _, rfl⟩ := List.mem_map.mp (show d ∈ (x :: xs).map f from hd)
    obtain ⟨b, _, rfl⟩ := List.mem_map.mp (show e ∈ (x :: xs).map f from he)
    intro q
    rw [hi a b q]
theorem er_inj_of {α : Type} [DecidableEq α] {f : α → Da} (h : ∀ a b, PyData.eqv (er (f a)) (er (f b)) = decide (a = b)) (a b : α) (e : er (f a) = er (f b)) : a = b := by
  have h1 := h a b
  rw [e, h b b, decide_eq_true rfl] at h1
  exact of_decide_eq_true h1.symm
/-- a part and how large it is -/
def sizeD (p : Grp) : Da := .tuple false [nD p.length, gD p]
theorem eqv_sizeD (a b : Grp) : PyData.eqv (er (sizeD a)) (er (sizeD b)) = decide (a = b) := by
  unfold sizeD
  rw [er, er]
  simp only [erAll]
  simp only [PyData.eqv]
  rw [eqv_cons (eqv_nD _ _) (eqv_cons (eqv_gD _ _) eqv_nil)]
  exact decide_eq_decide.mpr ⟨fun h => h.2.1, fun e => by subst e; exact ⟨rfl, rfl, trivial⟩⟩
theorem nice_sizeD (w : Grp) : Nice 2 (sizeD w) := nice_tup fun d hd => by
  rcases List.mem_cons.mp hd with e | hd
  · rw [e]; exact (nice_nD _).mono (by decide)
  rcases List.mem_cons.mp hd with e | hd
  · rw [e]; exact nice_gD _
  · cases hd
theorem alike_sizeD (a b : Grp) : PySem.W.alike (er (sizeD a)) (er (sizeD b)) = true := by
  unfold sizeD
  rw [er, er]
  simp only [erAll]
  simp only [PySem.W.alike, PySem.W.alikeAll]
  rw [alike_nD, alike_gD]
  rfl
theorem lt_sizeD (a b : Grp) : PySem.W.dataLt (er (sizeD a)) (er (sizeD b)) = ltP a b := by
  unfold sizeD ltP
  rw [er, er]
  simp only [erAll]
  refine (PySem.W.dataLt_tuple _ _).trans ?_
  by_cases e : a.length = b.length
  · rw [if_pos e, PySem.W.dataLt_all_yes (alike_nD _ _) (by rw [eqv_nD]; exact decide_eq_true e)]
    show PyProof.Rows.lexLt PyProof.Rows.itemOrd (PySem.W.keyToksAll [er (gD a)]) (PySem.W.keyToksAll [er (gD b)]) = _
    by_cases e2 : a = b
    · subst e2
      rw [PyProof.Rows.lex_irrefl, ← lt_gD]
      exact (PyProof.Rows.lex_irrefl _).symm
    · rw [PySem.W.dataLt_all_no (alike_gD _ _) (by rw [eqv_gD]; exact decide_eq_false e2)]
      exact lt_gD a b
  · rw [if_neg e, PySem.W.dataLt_all_no (alike_nD _ _) (by rw [eqv_nD]; exact decide_eq_false e)]
    exact lt_nD _ _
def optD : Option Grp → Da
  | none => .none
  | some g => gD g
def fUnlike : List Da → Da → Prop := fun ds r => ∃ (w : Way) (i j : Nat) (g : Grp), ds = [wayD w, nD i, nD j, gD g] ∧ i < w.tabs.length ∧ j < w.tabs.length ∧ g.length ≤ 5 ∧ r = optD (unlikePart w i j g)
def fIsBlind : List Da → Da → Prop := fun ds r => ∃ (w : Way) (g : Grp), ds = [wayD w, gD g] ∧ w.tabs.length ≤ 100 ∧ r = .bool (isBlind w g)
def fGreatest : List Da → Da → Prop := fun ds r => ∃ xs : List Grp, ds = [.list (xs.map gD)] ∧ r = lotsD (greatest xs)
def fLeast : List Da → Da → Prop := fun ds r => ∃ xs : List Grp, ds = [.list (xs.map gD)] ∧ r = lotsD (least xs)
def fBlind : List Da → Da → Prop := fun ds r => ∃ w : Way, ds = [wayD w] ∧ w.h ≤ 5 ∧ w.tabs.length ≤ 100 ∧ r = lotsD (blind w)
def fSighted : List Da → Da → Prop := fun ds r => ∃ w : Way, ds = [wayD w] ∧ w.h ≤ 5 ∧ w.tabs.length ≤ 100 ∧ r = lotsD (sighted w)
section
variable {P : Program} {w : World} {K : PySem.W.Frag} {mg : Str → Option Value} {base : Heap} {k : Nat}
theorem c_parts (F : Fn K mg "parts" sParts ["group"]) (B : Bi mg) : Cal P w K mg base (k + 1) "parts" ["group"] fParts := fn_fun F fun f fd h => ok_parts h B.tu B.so
theorem c_groups (F : Fn K mg "groups" sGroups ["holders"]) (B : Bi mg) (C : Cal P w K mg base k "parts" ["group"] fParts) : Cal P w K mg base (k + 1) "groups" ["holders"] fGroups := fn_fun F fun f fd h => by
  obtain ⟨f2, fd2, g1, g2, g3, g4⟩ := C
  exact ok_groups h g1 g2 g3 g4 B.tu B.ra
theorem c_isPart (F : Fn K mg "is_part" sIsPart ["group", "other"]) (B : Bi mg) : Cal P w K mg base (k + 1) "is_part" ["group", "other"] fIsPart := fn_fun F fun f fd h => ok_isPart h B.al
abbrev nUnlike : List Str := ["way", "one", "other", "group", "found", "part"]
theorem scUnlike : FnScope nUnlike ["way", "one", "other", "group"] (defScope sUnlike) := ⟨rfl, rfl, rfl, by decide +kernel, rfl, by decide +kernel, by decide +kernel⟩
theorem c_unlike (F : Fn K mg "unlike_part" sUnlike ["way", "one", "other", "group"]) (B : Bi mg) (C : Cal P w K mg base k "parts" ["group"] fParts) (D : Cal P w K mg base k "light" ["way", "tone", "group"] fLight) : Cal P w K mg base (k + 1) "unlike_part" ["way", "one", "other", "group"] fUnlike := by
  refine cal_of F fUnlike scUnlike (by decide) (fun ds r h => ?_) fun f cdv A outer s H E ds r hr hu h => ?_
  · obtain ⟨_, _, _, _, rfl, _⟩ := h
    rfl
  obtain ⟨w, i, j, g, rfl, hi, hj, hg, rfl⟩ := h
  refine sj_is (s1_lcX (own := [("part", 5)]) (t := 4) 5 (fun p => light w i p != light w j p) sizeD rfl scUnlike.nd rfl (fun _ z => nomatch z) rfl rfl (piv_tup (pv_c C hr (pav_cons (pvn 3 rfl) pav_nil) ⟨g, rfl, hg, rfl⟩)) (blkOk_by (N := nUnlike) (sc := defScope sUnlike) (by decide +kernel)) (by decide) (fun _ _ _ _ _ => pg_name (FnScope.nd scUnlike) rfl (.inl rfl))
    (fun a _ _ _ _ _ _ => pts1 (ptv_ne hr.units (pv_c D hr (pav_cons (pvn 0 rfl) (pav_cons (pvn 1 rfl) (pav_cons (pvn 5 rfl) pav_nil))) ⟨w, i, a, rfl, hi, rfl⟩) (pv_c D hr (pav_cons (pvn 0 rfl) (pav_cons (pvn 2 rfl) (pav_cons (pvn 5 rfl) pav_nil))) ⟨w, j, a, rfl, hj, rfl⟩) (nice_nD _).ok (nice_nD _).ok (by rw [eqv_nD, bne_dec])))
    (fun a _ _ _ _ _ _ _ => PV.cast (d := .tuple false [.int ((a.map nD).length : Nat), gD a]) (pv_tup (pav_cons (pv_lenT (pvn 5 rfl) B.le) (pav_cons (pvn 5 rfl) pav_nil))) (by rw [List.length_map]; rfl))) ?_
  show SJ _ _ [some (wayD w), some (nD i), some (nD j), some (gD g), some (.list ((unlikeAll w i j g).map sizeD)), none] none _ _
  unfold unlikePart
  cases e : unlikeAll w i j g with
  | nil =>
    refine sj_end (s1_ret (d := .none) (PV.cast (pv_ifExp (k := false) (da := .none) (db := .none) (ptv_ne hr.units (pvn 4 rfl) (pv_lst pav_nil) nice_nilL.ok nice_nilL.ok ?_) (fun z => nomatch z) (fun _ => pv_non)) rfl) rfl)
    rw [List.map_nil]
    decide +kernel
  | cons p ps =>
    refine sj_end (s1_ret (d := gD (minL ltP p ps)) (PV.cast (pv_ifExp (k := true) (da := gD (minL ltP p ps)) (db := .none) (ptv_ne hr.units (pvn 4 rfl) (pv_lst pav_nil) (nice_lst (nice_map nice_sizeD _)).ok nice_nilL.ok ?_)
      (fun _ => pv_ixT (kd := false) (PV.cast (pv_min rfl hu (minOk_map alike_sizeD nice_sizeD (by decide) (er_inj_of eqv_sizeD) (fun a z => by unfold sizeD at z; rw [er] at z; cases z) p ps) (pvn 4 rfl) B.mi) (minA_map lt_sizeD ps p)) (pv_int (i := 1)) (j := 1) rfl rfl) (fun z => nomatch z)) rfl) rfl)
    rw [er, er, erAll_eq, List.map_map]
    rfl
abbrev nIsBlind : List Str := ["way", "group"]
theorem scIsBlind : FnScope nIsBlind ["way", "group"] (defScope sIsBlind) := ⟨rfl, rfl, rfl, by decide +kernel, rfl, by decide +kernel, by decide +kernel⟩
theorem c_isBlind (F : Fn K mg "is_blind" sIsBlind ["way", "group"]) (B : Bi mg) (C : Cal P w K mg base k "told" ["way", "group"] fTold) : Cal P w K mg base (k + 1) "is_blind" ["way", "group"] fIsBlind := by
  refine cal_of F fIsBlind scIsBlind (by decide) (fun ds r h => ?_) fun f cdv A outer s H E ds r hr hu h => ?_
  · obtain ⟨_, _, rfl, _⟩ := h
    rfl
  obtain ⟨w, g, rfl, hz, rfl⟩ := h
  refine sj_end (s1_ret (pv_eq hr.units (pv_lenT (pv_c C hr (pav_cons (pvn 0 rfl) (pav_cons (pvn 1 rfl) pav_nil)) ⟨w, g, rfl, hz, rfl⟩) B.le) pv_int (nice_int _).ok (nice_int _).ok (c := isBlind w g) ?_) rfl)
  rw [List.length_map]
  refine (eqv_nD _ 1).trans ?_
  unfold isBlind
  rw [Bool.beq_eq_decide_eq]
abbrev nGreatest : List Str := ["some", "own", "other"]
theorem scGreatest : FnScope nGreatest ["some"] (defScope sGreatest) := ⟨rfl, rfl, rfl, by decide +kernel, rfl, by decide +kernel, by decide +kernel⟩
theorem c_greatest (F : Fn K mg "greatest" sGreatest ["some"]) (B : Bi mg) (C : Cal P w K mg base k "is_part" ["group", "other"] fIsPart) : Cal P w K mg base (k + 1) "greatest" ["some"] fGreatest := by
  refine cal_of F fGreatest scGreatest (by decide) (fun ds r h => ?_) fun f cdv A outer s H E ds r hr hu h => ?_
  · obtain ⟨_, rfl, _⟩ := h
    rfl
  obtain ⟨xs, rfl, rfl⟩ := h
  refine sj_end (s1_ret (pv_tupleL (pv_lcX (own := [("own", 1)]) 1 (fun own => !(xs.any fun other => isPart own other && own != other)) gD rfl scGreatest.nd (piv_list (pvn 0 rfl)) (blkOk_by (N := nGreatest) (sc := defScope sGreatest) (by decide +kernel)) (by decide) (fun _ _ _ _ _ => pg_name (FnScope.nd scGreatest) rfl (.inr rfl))
    (fun a _ _ _ _ _ _ => pts1 (ptv_not (ptv_val (PV.cast (pv_any (bs := xs.map fun other => isPart a other && a != other) rfl (PV.cast (pv_lcX0 (own := [("other", 2)]) 2 (fun other => .bool (isPart a other && a != other)) rfl scGreatest.nd (piv_list (pvn 0 rfl)) (blkOk_by (N := nGreatest) (by kernel_rfl)) (by decide) (fun _ _ _ _ _ => pg_name (FnScope.nd scGreatest) rfl (.inl rfl))
      (fun b _ _ _ _ _ _ => pv_and (pv_c C hr (pav_cons (pvn 1 rfl) (pav_cons (pvn 2 rfl) pav_nil)) ⟨a, b, rfl, rfl⟩) (pv_one (pv_ne hr.units (pvn 1 rfl) (pvn 2 rfl) (nice_gD _).ok (nice_gD _).ok (by rw [eqv_gD, bne_dec]))))) (by rw [List.map_map]; rfl)) B.an) (by rw [List.any_map]; rfl)))))
    (fun a _ _ _ _ _ _ _ => pvn 1 rfl)) B.tu) rfl)
theorem scLeast : FnScope nGreatest ["some"] (defScope sLeast) := ⟨rfl, rfl, rfl, by decide +kernel, rfl, by decide +kernel, by decide +kernel⟩
theorem c_least (F : Fn K mg "least" sLeast ["some"]) (B : Bi mg) (C : Cal P w K mg base k "is_part" ["group", "other"] fIsPart) : Cal P w K mg base (k + 1) "least" ["some"] fLeast := by
  refine cal_of F fLeast scLeast (by decide) (fun ds r h => ?_) fun f cdv A outer s H E ds r hr hu h => ?_
  · obtain ⟨_, rfl, _⟩ := h
    rfl
  obtain ⟨xs, rfl, rfl⟩ := h
  refine sj_end (s1_ret (pv_tupleL (pv_lcX (own := [("own", 1)]) 1 (fun own => !(xs.any fun other => isPart other own && own != other)) gD rfl scLeast.nd (piv_list (pvn 0 rfl)) (blkOk_by (N := nGreatest) (sc := defScope sLeast) (by decide +kernel)) (by decide) (fun _ _ _ _ _ => pg_name (FnScope.nd scLeast) rfl (.inr rfl))
    (fun a _ _ _ _ _ _ => pts1 (ptv_not (ptv_val (PV.cast (pv_any (bs := xs.map fun other => isPart other a && a != other) rfl (PV.cast (pv_lcX0 (own := [("other", 2)]) 2 (fun other => .bool (isPart other a && a != other)) rfl scLeast.nd (piv_list (pvn 0 rfl)) (blkOk_by (N := nGreatest) (by kernel_rfl)) (by decide) (fun _ _ _ _ _ => pg_name (FnScope.nd scLeast) rfl (.inl rfl))
      (fun b _ _ _ _ _ _ => pv_and (pv_c C hr (pav_cons (pvn 2 rfl) (pav_cons (pvn 1 rfl) pav_nil)) ⟨b, a, rfl, rfl⟩) (pv_one (pv_ne hr.units (pvn 1 rfl) (pvn 2 rfl) (nice_gD _).ok (nice_gD _).ok (by rw [eqv_gD, bne_dec]))))) (by rw [List.map_map]; rfl)) B.an) (by rw [List.any_map]; rfl)))))
    (fun a _ _ _ _ _ _ _ => pvn 1 rfl)) B.tu) rfl)
abbrev nBlind : List Str := ["way", "group"]
theorem scBlind : FnScope nBlind ["way"] (defScope sBlind) := ⟨rfl, rfl, rfl, by decide +kernel, rfl, by decide +kernel, by decide +kernel⟩
theorem c_blind (F : Fn K mg "blind" sBlind ["way"]) (C : Cal P w K mg base k "greatest" ["some"] fGreatest) (D : Cal P w K mg base k "groups" ["holders"] fGroups) (I : Cal P w K mg base k "is_blind" ["way", "group"] fIsBlind) : Cal P w K mg base (k + 1) "blind" ["way"] fBlind := by
  refine cal_of F fBlind scBlind (by decide) (fun ds r h => ?_) fun f cdv A outer s H E ds r hr hu h => ?_
  · obtain ⟨_, rfl, _⟩ := h
    rfl
  obtain ⟨w, rfl, hh, hz, rfl⟩ := h
  refine sj_end (s1_ret (pv_c C hr (pav_cons (pv_lcX (own := [("group", 1)]) 1 (fun g => isBlind w g) gD rfl scBlind.nd (piv_tup (pv_c D hr (pav_cons (pv_ixT (d := nD w.h) (pvn 0 rfl) (pv_int (i := 0)) (j := 0) rfl rfl) pav_nil) ⟨w.h, rfl, hh, rfl⟩)) (blkOk_by (N := nBlind) (sc := defScope sBlind) (by decide +kernel)) (by decide) (fun _ _ _ _ _ => pg_name (FnScope.nd scBlind) rfl (.inl rfl))
    (fun a _ _ _ _ _ _ => pts1 (ptv_val (pv_c I hr (pav_cons (pvn 0 rfl) (pav_cons (pvn 1 rfl) pav_nil)) ⟨w, a, rfl, hz, rfl⟩)))
    (fun a _ _ _ _ _ _ _ => pvn 1 rfl)) pav_nil) ⟨_, rfl, rfl⟩) rfl)
theorem scSighted : FnScope nBlind ["way"] (defScope sSighted) := ⟨rfl, rfl, rfl, by decide +kernel, rfl, by decide +kernel, by decide +kernel⟩
theorem c_sighted (F : Fn K mg "sighted" sSighted ["way"]) (B : Bi mg) (C : Cal P w K mg base k "least" ["some"] fLeast) (D : Cal P w K mg base k "groups" ["holders"] fGroups) (I : Cal P w K mg base k "told" ["way", "group"] fTold) : Cal P w K mg base (k + 1) "sighted" ["way"] fSighted := by
  refine cal_of F fSighted scSighted (by decide) (fun ds r h => ?_) fun f cdv A outer s H E ds r hr hu h => ?_
  · obtain ⟨_, rfl, _⟩ := h
    rfl
  obtain ⟨w, rfl, hh, hz, rfl⟩ := h
  refine sj_end (s1_ret (pv_c C hr (pav_cons (pv_lcX (own := [("group", 1)]) 1 (fun g => (told w g).length == w.tabs.length) gD rfl scSighted.nd (piv_tup (pv_c D hr (pav_cons (pv_ixT (d := nD w.h) (pvn 0 rfl) (pv_int (i := 0)) (j := 0) rfl rfl) pav_nil) ⟨w.h, rfl, hh, rfl⟩)) (blkOk_by (N := nBlind) (sc := defScope sSighted) (by decide +kernel)) (by decide) (fun _ _ _ _ _ => pg_name (FnScope.nd scSighted) rfl (.inl rfl))
    (fun a _ _ _ _ _ _ => pts1 (ptv_eq hr.units (pv_lenT (pv_c I hr (pav_cons (pvn 0 rfl) (pav_cons (pvn 1 rfl) pav_nil)) ⟨w, a, rfl, hz, rfl⟩) B.le) (pv_lenT (k := false) (ds := w.tabs.map tabD) (pv_ixT (pvn 0 rfl) (pv_int (i := 2)) (j := 2) rfl rfl) B.le) (nice_int _).ok (nice_int _).ok (by
      rw [List.length_map, List.length_map]
      refine (eqv_nD _ _).trans ?_
      rw [Bool.beq_eq_decide_eq])))
    (fun a _ _ _ _ _ _ _ => pvn 1 rfl)) pav_nil) ⟨_, rfl, rfl⟩) rfl)
end
end K42
/-! ## KDefD -/
namespace K42
open PySem PySem.Spec L2
open PyProof.Rows hiding St
abbrev sSortedWay : Stmt := topS 24
abbrev sBeside : Stmt := topS 25
abbrev sMerged : Stmt := topS 26
abbrev sExch : Stmt := topS 27
abbrev sToned : Stmt := topS 28
/-- every dot is a group of the way's holders -/
def WOk (w : Way) : Prop := w.h ≤ 5 ∧ ∀ t ∈ w.tabs, ∀ dot ∈ t, dot ∈ groups w.h
def fSortedWay : List Da → Da → Prop := fun ds r => ∃ (h : Nat) (odd : Bool) (tabs : List Tab) (b : Bool), ds = [nD h, modeD odd, .list (tabs.map fun t => if b then .tuple false (t.map gD) else .list (t.map gD))] ∧ r = wayD (sortedWay h odd tabs)
def fBeside : List Da → Da → Prop := fun ds r => ∃ (a b : Way) (t u : Tab) (ts us : List Tab), ds = [wayD a, wayD b] ∧ a.tabs = t :: ts ∧ b.tabs = u :: us ∧ (∀ t ∈ a.tabs, t ≠ [] ∧ t.length ≤ 100) ∧ (∀ t ∈ b.tabs, t ≠ [] ∧ t.length ≤ 100) ∧ r = wayD (beside a b)
def fMerged : List Da → Da → Prop := fun ds r => ∃ (w : Way) (lots : List Grp), ds = [wayD w, lotsD lots] ∧ WOk w ∧ r = wayD (merged w lots)
def fExch : List Da → Da → Prop := fun ds r => ∃ (w : Way) (k : Bool) (o : List Nat), ds = [wayD w, .tuple k (o.map nD)] ∧ WOk w ∧ r = wayD (exch w o)
def fToned : List Da → Da → Prop := fun ds r => ∃ (w : Way) (ts : List Nat), ds = [wayD w, gD ts] ∧ (∀ i ∈ ts, i < w.tabs.length) ∧ r = wayD (toned w ts)
theorem pairs_zip {α β : Type} (f : α → Da) (g : β → Da) : ∀ (xs : List α) (ys : List β), pairsD (xs.map f) (ys.map g) = (xs.zip ys).map fun q => .tuple false [f q.1, g q.2]
  | [], _ => rfl
  | _ :: _, [] => rfl
  | x :: xs, y :: ys => by
    have ih := pairs_zip f g xs ys
    unfold pairsD at ih ⊢
    rw [List.map_cons, List.map_cons, List.zipWith_cons_cons, List.zip_cons_cons, List.map_cons, ih]
theorem zipWith_zip {α β γ : Type} (f : α → β → γ) : ∀ (xs : List α) (ys : List β), List.zipWith f xs ys = (xs.zip ys).map fun q => f q.1 q.2
  | [], _ => rfl
  | _ :: _, [] => rfl
  | x :: xs, y :: ys => by rw [List.zipWith_cons_cons, List.zip_cons_cons, List.map_cons, zipWith_zip f xs ys]
theorem groups_len {n : Nat} (h : n ≤ 5) : (groups n).length ≤ 32 := by
  unfold groups parts sortBy
  rw [(List.mergeSort_perm _ _).length_eq]
  have := partsU_small (g := List.range n) (by rw [List.length_range]; exact h) n
  rw [List.take_of_length_le (by rw [List.length_range]; exact Nat.le_refl _)] at this
  exact this
section
variable {P : Program} {w : World} {K : PySem.W.Frag} {mg : Str → Option Value} {base : Heap} {k : Nat}
abbrev nSortedWay : List Str := ["holders", "mode", "tables", "table"]
theorem scSortedWay : FnScope nSortedWay ["holders", "mode", "tables"] (defScope sSortedWay) := ⟨rfl, rfl, rfl, by decide +kernel, rfl, by decide +kernel, by decide +kernel⟩
theorem c_sortedWay (F : Fn K mg "sorted_way" sSortedWay ["holders", "mode", "tables"]) (B : Bi mg) : Cal P w K mg base (k + 1) "sorted_way" ["holders", "mode", "tables"] fSortedWay := by
  refine cal_of F fSortedWay scSortedWay (by decide) (fun ds r h => ?_) fun f cdv A outer s H E ds r hr hu h => ?_
  · obtain ⟨_, _, _, _, rfl, _⟩ := h
    rfl
  obtain ⟨h, odd, tabs, b, rfl, rfl⟩ := h
  refine sj_end (s1_ret (PV.cast (pv_tup (pav_cons (pvn 0 rfl) (pav_cons (pvn 1 rfl) (pav_cons (PV.cast (pv_tupleL (pv_lcX0 (own := [("table", 3)]) 3 (fun t => tabD (sortBy ltG t)) rfl scSortedWay.nd (piv_list (pvn 2 rfl)) (blkOk_by (N := nSortedWay) (sc := defScope sSortedWay) (by decide +kernel)) (by decide) (fun _ _ _ _ _ => pg_name (FnScope.nd scSortedWay) rfl (.inl rfl))
    (fun t _ _ _ _ _ _ => PV.cast (d := .tuple true (msort (t.map gD))) (by
      cases b with
      | true => exact pv_tupleF (pv_sortedT hu (sortOk_gD t) (pvn 3 rfl) B.so) B.tu
      | false => exact pv_tupleF (pv_sortedL hu (sortOk_gD t) (pvn 3 rfl) B.so) B.tu) (by rw [msort_map lt_gD]; rfl))) B.tu) (d' := tabsD (tabs.map (sortBy ltG))) (by unfold tabsD; rw [List.map_map]; rfl)) pav_nil)))) rfl) rfl)
abbrev nBeside : List Str := ["one", "other", "first", "second"]
theorem scBeside : FnScope nBeside ["one", "other"] (defScope sBeside) := ⟨rfl, rfl, rfl, by decide +kernel, rfl, by decide +kernel, by decide +kernel⟩
theorem c_beside {t0 : Tok} (F : Fn K mg "beside" sBeside ["one", "other"]) (B : Bi mg) (hx : mg "MAX_DOTS" = some (.int 400 t0)) (C : Cal P w K mg base k "dots" ["way"] fDots) (D : Cal P w K mg base k "sorted_way" ["holders", "mode", "tables"] fSortedWay) : Cal P w K mg base (k + 1) "beside" ["one", "other"] fBeside := by
  refine cal_of F fBeside scBeside (by decide) (fun ds r h => ?_) fun f cdv A outer s H E ds r hr hu h => ?_
  · obtain ⟨_, _, _, _, _, _, rfl, _⟩ := h
    rfl
  obtain ⟨a, b, t, u, ts, us, rfl, ea, eb, ha, hb, rfl⟩ := h
  have l1 := (ha t (by rw [ea]; exact List.mem_cons_self)).2
  have l2 := (hb u (by rw [eb]; exact List.mem_cons_self)).2
  have hc : decide ((400 : Int) < (t.length : Int) + (u.length : Int)) = false := decide_eq_false (by omega)
  refine sj_is (s1_if (N := Is [some (wayD a), some (wayD b), none, none] none) (b := false) (hc ▸ ptv_gtI (i := (t.length : Int) + (u.length : Int)) (j := 400) (pv_addI (i := (t.length : Int)) (j := (u.length : Int)) (pv_c C hr (pav_cons (pvn 0 rfl) pav_nil) ⟨a, t, ts, rfl, ea, rfl⟩) (pv_c C hr (pav_cons (pvn 1 rfl) pav_nil) ⟨b, u, us, rfl, eb, rfl⟩)) (pv_globInt rfl hx)) (fun z => nomatch z) (fun _ => sj_nil ⟨rfl, rfl⟩)) ?_
  refine sj_end (s1_ret (pv_c D hr (pav_cons (pv_ixT (d := nD a.h) (pvn 0 rfl) (pv_int (i := 0)) (j := 0) rfl rfl) (pav_cons (pv_ixT (d := modeD a.odd) (pvn 0 rfl) (pv_int (i := 1)) (j := 1) rfl rfl) (pav_cons
    (PV.cast (pv_lcX2 (own := [("first", 2), ("second", 3)]) (xs := a.tabs.zip b.tabs) (en := fun q => tabD q.1) (en' := fun q => tabD q.2) 2 3 (fun _ => true) (fun q => .tuple false ((q.1 ++ q.2).map gD)) rfl scBeside.nd
      (pairs_zip tabD tabD a.tabs b.tabs ▸ piv_zipT (k := false) (k' := false) (pv_ixT (pvn 0 rfl) (pv_int (i := 2)) (j := 2) rfl rfl) (pv_ixT (pvn 1 rfl) (pv_int (i := 2)) (j := 2) rfl rfl) rfl B.zi) (blkOk_by (N := nBeside) (sc := defScope sBeside) (by decide +kernel)) (by decide) (by decide)
      (fun _ _ _ _ _ => pg_pair rfl scBeside.nd rfl rfl (.inl rfl) (.inl rfl)) (fun _ _ _ _ _ _ _ => .inl ⟨rfl, rfl⟩)
      (fun q hq _ _ _ _ _ _ => by
        have m1 := ha _ (List.of_mem_zip hq).1
        have m2 := hb _ (List.of_mem_zip hq).2
        exact PV.cast (pv_catTT (fun z => m1.1 (List.map_eq_nil_iff.mp z)) (fun z => m2.1 (List.map_eq_nil_iff.mp z)) (by rw [List.length_map, List.length_map]; omega) (pvn 2 rfl) (pvn 3 rfl)) (by rw [← List.map_append]))) (d' := .list ((List.zipWith (· ++ ·) a.tabs b.tabs).map fun t => if true then .tuple false (t.map gD) else .list (t.map gD)))
      (by rw [zipWith_zip, List.map_map, List.filter_eq_self.mpr (fun _ _ => rfl)]; rfl)) pav_nil))) ⟨a.h, a.odd, _, true, rfl, rfl⟩) rfl)
abbrev nMerged : List Str := ["way", "lots", "known", "dot", "number", "lot", "table"]
theorem scMerged : FnScope nMerged ["way", "lots"] (defScope sMerged) := ⟨rfl, rfl, rfl, by decide +kernel, rfl, by decide +kernel, by decide +kernel⟩
theorem c_merged (F : Fn K mg "merged" sMerged ["way", "lots"]) (B : Bi mg) (C : Cal P w K mg base k "groups" ["holders"] fGroups) (D : Cal P w K mg base k "sorted_way" ["holders", "mode", "tables"] fSortedWay) (I : Cal P w K mg base k "is_dark" ["mode", "dot", "group"] fIsDark) : Cal P w K mg base (k + 1) "merged" ["way", "lots"] fMerged := by
  refine cal_of F fMerged scMerged (by decide) (fun ds r h => ?_) fun f cdv A outer s H E ds r hr hu h => ?_
  · obtain ⟨_, _, rfl, _⟩ := h
    rfl
  obtain ⟨w, lots, rfl, ⟨hh, hd⟩, rfl⟩ := h
  refine sj_fill (i := 2) (j := 3) (xs := groups w.h) (knownOf w.odd lots) hu rfl scMerged.nd rfl rfl (by decide) (Nat.le_of_ble_eq_true rfl) (Nat.le_of_ble_eq_true rfl) (by have := groups_len hh; omega) (fun ρ' e => by
      subst e
      exact piv_tup (pv_c C hr (pav_cons (pv_ixT (d := nD w.h) (pvn 0 rfl) (pv_int (i := 0)) (j := 0) rfl rfl) pav_nil) ⟨w.h, rfl, hh, rfl⟩)) (fun a ha => ?_) PassesOwn.never ?_
  · exact PV.cast (pv_tupleL (pv_lcX2 (own := [("number", 4), ("lot", 5)]) (xs := lots.zipIdx) (en := fun q => nD q.2) (en' := fun q => gD q.1) 4 5 (fun q => isDark w.odd a q.1) (fun q => nD q.2) rfl scMerged.nd (pairs_zipIdx gD lots ▸ piv_enumT (pvn 1 rfl) rfl B.en) (blkOk_by (N := nMerged) (sc := defScope sMerged) (by decide +kernel)) (by decide) (by decide)
      (fun _ _ _ _ _ => pg_pair rfl scMerged.nd rfl rfl (.inl rfl) (.inl rfl)) (fun q _ _ _ _ _ _ => pts1 (ptv_val (pv_c I hr (pav_cons (pv_ixT (d := modeD w.odd) (pvn 0 rfl) (pv_int (i := 1)) (j := 1) rfl rfl) (pav_cons (pvn 3 rfl) (pav_cons (pvn 5 rfl) pav_nil))) ⟨w.odd, a, q.1, rfl, rfl⟩)))
      (fun q _ _ _ _ _ _ _ => pvn 4 rfl)) B.tu) (by unfold knownOf gD; rw [List.map_map]; rfl)
  · refine sj_end (s1_ret (pv_c D hr (pav_cons (PV.cast (d' := nD lots.length) (pv_lenT (k := false) (ds := lots.map gD) (pvn 1 rfl) B.le) (by rw [List.length_map]; rfl)) (pav_cons (pv_ixT (d := modeD w.odd) (pvn 0 rfl) (pv_int (i := 1)) (j := 1) rfl rfl) (pav_cons
      (PV.cast (pv_lcX0 (own := [("table", 6)]) 6 (fun t => .list ((t.map (knownOf w.odd lots)).map gD)) rfl scMerged.nd (piv_tup (pv_ixT (d := tabsD w.tabs) (pvn 0 rfl) (pv_int (i := 2)) (j := 2) rfl rfl)) (blkOk_by (N := nMerged) (sc := defScope sMerged) (by decide +kernel)) (by decide) (fun _ _ _ _ _ => pg_name (FnScope.nd scMerged) rfl (.inl rfl))
        (fun t ht _ _ _ _ _ => PV.cast (pv_lcX0 (own := [("dot", 3)]) 3 (fun dot => gD (knownOf w.odd lots dot)) rfl scMerged.nd (piv_tup (pvn 6 rfl)) (blkOk_by (N := nMerged) (by kernel_rfl)) (by decide) (fun _ _ _ _ _ => pg_name (FnScope.nd scMerged) rfl (.inl rfl))
          (fun dot hdot _ _ _ _ _ => pv_dget hu (pvn 2 rfl) (pvn 3 rfl) (if_pos (hd t ht dot hdot)))) (by rw [List.map_map]; rfl)))
        (d' := .list ((w.tabs.map fun t => t.map (knownOf w.odd lots)).map fun t => if false then .tuple false (t.map gD) else .list (t.map gD))) (by rw [List.map_map]; rfl)) pav_nil))) ⟨lots.length, w.odd, _, false, rfl, rfl⟩) rfl)
abbrev nExch : List Str := ["way", "order", "holder"]
theorem scExch : FnScope nExch ["way", "order"] (defScope sExch) := ⟨rfl, rfl, rfl, by decide +kernel, rfl, by decide +kernel, by decide +kernel⟩
theorem c_exch (F : Fn K mg "exchanged" sExch ["way", "order"]) (B : Bi mg) (C : Cal P w K mg base k "merged" ["way", "lots"] fMerged) : Cal P w K mg base (k + 1) "exchanged" ["way", "order"] fExch := by
  refine cal_of F fExch scExch (by decide) (fun ds r h => ?_) fun f cdv A outer s H E ds r hr hu h => ?_
  · obtain ⟨_, _, _, rfl, _⟩ := h
    rfl
  obtain ⟨w, kd, o, rfl, hw, rfl⟩ := h
  refine sj_end (s1_ret (pv_c C hr (pav_cons (pvn 0 rfl) (pav_cons (PV.cast (d' := lotsD (o.map fun x => [x])) (pv_tupleL (pv_lcX0 (own := [("holder", 2)]) 2 (fun x => gD [x]) rfl scExch.nd (piv_tup (pvn 1 rfl)) (blkOk_by (N := nExch) (sc := defScope sExch) (by decide +kernel)) (by decide) (fun _ _ _ _ _ => pg_name (FnScope.nd scExch) rfl (.inl rfl))
    (fun x _ _ _ _ _ _ => pv_tup (pav_cons (pvn 2 rfl) pav_nil))) B.tu) (by unfold lotsD; rw [List.map_map]; rfl)) pav_nil)) ⟨w, _, rfl, hw, rfl⟩) rfl)
abbrev nToned : List Str := ["way", "tones", "tone"]
theorem scToned : FnScope nToned ["way", "tones"] (defScope sToned) := ⟨rfl, rfl, rfl, by decide +kernel, rfl, by decide +kernel, by decide +kernel⟩
theorem c_toned (F : Fn K mg "toned" sToned ["way", "tones"]) (B : Bi mg) : Cal P w K mg base (k + 1) "toned" ["way", "tones"] fToned := by
  refine cal_of F fToned scToned (by decide) (fun ds r h => ?_) fun f cdv A outer s H E ds r hr hu h => ?_
  · obtain ⟨_, _, rfl, _⟩ := h
    rfl
  obtain ⟨w, ts, rfl, hi, rfl⟩ := h
  refine sj_end (s1_ret (PV.cast (pv_tup (pav_cons (pv_ixT (d := nD w.h) (pvn 0 rfl) (pv_int (i := 0)) (j := 0) rfl rfl) (pav_cons (pv_ixT (d := modeD w.odd) (pvn 0 rfl) (pv_int (i := 1)) (j := 1) rfl rfl) (pav_cons (pv_tupleL (pv_lcX0 (own := [("tone", 2)]) 2 (fun i => tabD (w.tabs.getD i [])) rfl scToned.nd (piv_tup (pvn 1 rfl)) (blkOk_by (N := nToned) (sc := defScope sToned) (by decide +kernel)) (by decide) (fun _ _ _ _ _ => pg_name (FnScope.nd scToned) rfl (.inl rfl))
    (fun i hii _ _ _ _ _ => pv_ixT (kd := false) (ds := w.tabs.map tabD) (pv_ixT (pvn 0 rfl) (pv_int (i := 2)) (j := 2) rfl rfl) (pvn 2 rfl) (j := i) rfl (by rw [List.getElem?_map, List.getElem?_eq_getElem (hi i hii), getD_at (hi i hii)]; rfl))) B.tu) pav_nil)))) (d' := wayD (toned w ts)) (by unfold wayD tabsD toned; rw [List.map_map]; rfl)) rfl)
end
end K42
/-! ## KDefE -/
namespace K42
open PySem PySem.Spec L2
open PyProof.Rows hiding St
abbrev sOrders : Stmt := topS 30
abbrev sLikeness : Stmt := topS 31
abbrev sFirstForm : Stmt := topS 32
abbrev sSwapped : Stmt := topS 33
abbrev sEquals : Stmt := topS 34
/-! the orders -/
theorem len_le_of_sub : ∀ {l l' : List Nat}, l.Nodup → (∀ x ∈ l, x ∈ l') → l.length ≤ l'.length
  | [], _, _, _ => Nat.zero_le _
  | x :: xs, l', h, hs => by
    rw [List.nodup_cons] at h
    have hx := hs x List.mem_cons_self
    have := len_le_of_sub (l := xs) (l' := l'.erase x) h.2 fun y hy => (List.mem_erase_of_ne (fun e => h.1 (by rw [← e]; exact hy))).mpr (hs y (List.mem_cons_of_mem _ hy))
    rw [List.length_erase_of_mem hx] at this
    have := List.length_pos_of_mem hx
    rw [List.length_cons]
    omega
theorem longer_len (h : Nat) (row : List Nat) : (longer h row).length ≤ h := by
  unfold longer
  rw [List.length_map]
  exact Nat.le_trans (List.length_filter_le _ _) (by rw [List.length_range]; exact Nat.le_refl _)
theorem flat_len (h : Nat) : ∀ xs : List (List Nat), (xs.flatMap (longer h)).length ≤ xs.length * h
  | [] => by simp
  | x :: xs => by
    rw [List.flatMap_cons, List.length_append, List.length_cons, Nat.succ_mul]
    have := longer_len h x
    have := flat_len h xs
    omega
theorem ordersU_len (h : Nat) : ∀ i, (ordersU h i).length ≤ h ^ i
  | 0 => Nat.le_refl _
  | i + 1 => by
    show ((ordersU h i).flatMap (longer h)).length ≤ _
    rw [Nat.pow_succ]
    exact Nat.le_trans (flat_len h _) (Nat.mul_le_mul_right _ (ordersU_len h i))
theorem ordersU_row (h : Nat) : ∀ i, ∀ row ∈ ordersU h i, row.length = i
  | 0, row, hr => by
    rw [List.mem_singleton.mp hr]
    rfl
  | i + 1, row, hr => by
    obtain ⟨r, h1, h2⟩ := List.mem_flatMap.mp (show row ∈ (ordersU h i).flatMap (longer h) from hr)
    unfold longer at h2
    obtain ⟨x, _, rfl⟩ := List.mem_map.mp h2
    rw [List.length_append, ordersU_row h i r h1]
    rfl
theorem orders_row {h : Nat} {o : List Nat} (ho : o ∈ orders h) : o.length = h := ordersU_row h h o ho
theorem orders_ne (h : Nat) (k : Nat) (hk : k ≤ h) : ordersU h k ≠ [] := by
  induction k with
  | zero => exact fun z => nomatch z
  | succ k ih =>
    intro z
    have e := ih (by omega)
    cases q : ordersU h k with
    | nil => exact e q
    | cons row rest =>
      have hl := ordersU_row h k row (by rw [q]; exact List.mem_cons_self)
      have z2 : (ordersU h k).flatMap (longer h) = [] := z
      rw [q, List.flatMap_cons, List.append_eq_nil_iff] at z2
      have z3 := z2.1
      unfold longer at z3
      have z4 := List.filter_eq_nil_iff.mp (List.map_eq_nil_iff.mp z3)
      have := len_le_of_sub (l := List.range h) (l' := row) List.nodup_range fun x hx => by
        have := z4 x hx
        simpa using this
      rw [List.length_range] at this
      omega
def fOrders : List Da → Da → Prop := fun ds r => ∃ h : Nat, ds = [nD h] ∧ h ≤ 5 ∧ r = .list ((orders h).map gD)
def fLikeness : List Da → Da → Prop := fun ds r => ∃ a b : Way, ds = [wayD a, wayD b] ∧ WOk a ∧ r = optD (likeness a b)
def fFirstForm : List Da → Da → Prop := fun ds r => ∃ a : Way, ds = [wayD a] ∧ WOk a ∧ r = wayD (firstForm a)
def fSwapped : List Da → Da → Prop := fun ds r => ∃ h i j : Nat, ds = [nD h, nD i, nD j] ∧ h ≤ 5 ∧ i < h ∧ j < h ∧ r = gD (swapped h i j)
def fEquals : List Da → Da → Prop := fun ds r => ∃ a : Way, ds = [wayD a] ∧ WOk a ∧ (∀ i, i < a.h → equalLot a i ≠ []) ∧ r = lotsD (equals a)
section
variable {P : Program} {w : World} {K : PySem.W.Frag} {mg : Str → Option Value} {base : Heap} {k : Nat}
abbrev nOrders : List Str := ["holders", "found", "turn", "longer", "row", "holder"]
theorem scOrders : FnScope nOrders ["holders"] (defScope sOrders) := ⟨rfl, rfl, rfl, by decide +kernel, rfl, by decide +kernel, by decide +kernel⟩
theorem c_orders (F : Fn K mg "orders_of" sOrders ["holders"]) (B : Bi mg) : Cal P w K mg base (k + 1) "orders_of" ["holders"] fOrders := by
  refine cal_of F fOrders scOrders (by decide) (fun ds r h => ?_) fun f cdv A outer s H E ds r hr hu h => ?_
  · obtain ⟨_, rfl, _⟩ := h
    rfl
  obtain ⟨h, rfl, hh, rfl⟩ := h
  refine sj_is (s1_set (i := 1) (d := .list ((ordersU h 0).map gD)) scOrders.nd rfl (pv_lst (pav_cons (pv_tup pav_nil) pav_nil)) (fun _ z => nomatch z)) ?_
  refine sj_cons (s1_forX (i := 2) (xs := List.range h) (en := nD) (fun _ => True) (fun i => [some (nD h), some (.list ((ordersU h i).map gD)), none, none, none, none]) (fun _ => none) rfl scOrders.nd rfl (upto_nD h ▸ piv_range (pvn 0 rfl) (by omega) rfl B.ra) PassesOwn.never
    (RLe.refl _) (fun _ => rfl) rfl trivial (fun _ _ _ z => nomatch z) fun i a ha _ => ?_) fun ρ' ω' q => ?_
  · have hi : i < h := by
      have := (List.getElem?_eq_some_iff.mp ha).1
      rw [List.length_range] at this
      exact this
    have hz : (ordersU h i).length ≤ 3125 := Nat.le_trans (ordersU_len h i) (Nat.le_trans (Nat.pow_le_pow_left hh i) (Nat.le_trans (Nat.pow_le_pow_right (by decide) (show i ≤ 5 by omega)) (by decide)))
    refine sj_is (s1_own (i := 3) scOrders.nd rfl (Nat.le_of_ble_eq_true rfl) pnv_nil) ?_
    refine sj_cons (s1_forX (i := 4) (xs := ordersU h i) (en := gD) (fun _ => True) (fun _ => [some (nD h), some (.list ((ordersU h i).map gD)), none, none, none, none]) (fun j => some (3, (((ordersU h i).take j).flatMap (longer h)).map gD)) rfl scOrders.nd rfl (piv_list (pvn 1 rfl)) PassesOwn.never
      (rl_same (rl_same (rl_none (rl_none (rl_none (rl_none rl_nil)))))) (fun _ => rfl) rfl trivial (fun _ _ _ z => by cases z; decide) fun j row hrow _ => ?_) fun ρ2 ω2 q => ?_
    · have hj : j < (ordersU h i).length := (List.getElem?_eq_some_iff.mp hrow).1
      have rl := ordersU_row h i row (List.mem_of_getElem? hrow)
      have z1 := flat_len h ((ordersU h i).take j)
      have z2 : ((ordersU h i).take j).length * h ≤ 3125 * 5 := Nat.mul_le_mul (Nat.le_trans (List.length_take_le _ _) (by omega)) hh
      have z3 := longer_len h row
      refine sj_is (s1_extend (es := (longer h row).map gD) rfl (by rw [List.length_map, List.length_map]; omega) (PV.cast (pv_lcX (own := [("holder", 5)]) (xs := List.range h) (en := nD) 5 (fun x => !row.contains x) (fun x => gD (row ++ [x])) rfl scOrders.nd (upto_nD h ▸ piv_range (pvn 0 rfl) (by omega) rfl B.ra) (blkOk_by (N := nOrders) (sc := defScope sOrders) (by decide +kernel)) (by decide) (fun _ _ _ _ _ => pg_name (FnScope.nd scOrders) rfl (.inl rfl))
        (fun x _ _ _ _ _ _ => pts1 (ptv_notIn hr.units (pvn 5 rfl) (pvn 4 rfl) (nice_nD x).ok (plain_map nice_nD row) rfl (by rw [any_eq eqv_nD row x])))
        (fun x _ _ _ _ _ _ _ => PV.cast (pv_catT (ys := [nD x]) (by rw [List.length_map]; show row.length + 1 ≤ 100000; omega) (pvn 4 rfl) (pv_tup (pav_cons (pvn 5 rfl) pav_nil))) (by unfold gD; rw [List.map_append]; rfl))) (by unfold longer; rw [List.map_map]; rfl))) (sj_nil ?_)
      refine ⟨trivial, rl_same (rl_same (rl_none (rl_none (rl_none (rl_none rl_nil))))), rfl, ?_⟩
      rw [List.take_add_one, hrow, Option.toList_some, List.flatMap_append, List.flatMap_singleton, List.map_append]
    · obtain ⟨_, rfl, rfl⟩ := q
      rw [List.take_length]
      refine sj_freeze (sj_is (s1_set (i := 1) (d := .list ((ordersU h (i + 1)).map gD)) scOrders.nd rfl (pvn 3 rfl) (fun _ z => nomatch z)) (sj_nil ?_))
      exact ⟨trivial, rl_same (rl_same (rl_none (rl_none (rl_none (rl_none rl_nil))))), rfl, rfl⟩
  · obtain ⟨_, rfl, rfl⟩ := q
    rw [List.length_range]
    exact sj_end (s1_ret (pvn 1 rfl) rfl)
abbrev nLikeness : List Str := ["one", "other", "order"]
theorem scLikeness : FnScope nLikeness ["one", "other"] (defScope sLikeness) := ⟨rfl, rfl, rfl, by decide +kernel, rfl, by decide +kernel, by decide +kernel⟩
theorem c_likeness (F : Fn K mg "likeness" sLikeness ["one", "other"]) (C : Cal P w K mg base k "orders_of" ["holders"] fOrders) (D : Cal P w K mg base k "exchanged" ["way", "order"] fExch) : Cal P w K mg base (k + 1) "likeness" ["one", "other"] fLikeness := by
  refine cal_of F fLikeness scLikeness (by decide) (fun ds r h => ?_) fun f cdv A outer s H E ds r hr hu h => ?_
  · obtain ⟨_, _, rfl, _⟩ := h
    rfl
  obtain ⟨a, b, rfl, hw, rfl⟩ := h
  refine sj_cons (s1_forX (i := 2) (xs := orders a.h) (en := gD) (fun i => ∀ o ∈ (orders a.h).take i, decide (exch a o = b) = false) (fun _ => [some (wayD a), some (wayD b), none]) (fun _ => none) rfl scLikeness.nd rfl (piv_list (pv_c C hr (pav_cons (pv_ixT (d := nD a.h) (pvn 0 rfl) (pv_int (i := 0)) (j := 0) rfl rfl) pav_nil) ⟨a.h, rfl, hw.1, rfl⟩)) PassesOwn.never
    (RLe.refl _) (fun _ => rfl) rfl (fun o ho => by rw [List.take_zero] at ho; cases ho) (fun _ _ _ z => nomatch z) fun i o ho hP => ?_) fun ρ' ω' q => ?_
  · refine sj_one (s1_if (ptv_eq hr.units (pv_c D hr (pav_cons (pvn 0 rfl) (pav_cons (pvn 2 rfl) pav_nil)) ⟨a, false, o, rfl, hw, rfl⟩) (pvn 1 rfl) (nice_wayD _).ok (nice_wayD _).ok (eqv_wayD _ _)) (fun hb => ?_) fun hb => ?_)
    · refine sj_end (s1_ret (d := gD o) (pvn 2 rfl) ?_)
      have hi := (List.getElem?_eq_some_iff.mp ho)
      obtain ⟨hi, e⟩ := hi
      have : likeness a b = some o := by
        unfold likeness
        rw [List.find?_eq_some_iff_getElem]
        refine ⟨hb, i, hi, e, fun j hj => ?_⟩
        rw [hP _ (by rw [List.mem_take_iff_getElem]; exact ⟨j, by omega, rfl⟩)]
        rfl
      rw [this]
      rfl
    · refine sj_nil ⟨fun o' ho' => ?_, rl_same (rl_same (rl_none rl_nil)), rfl, rfl⟩
      rw [List.take_add_one, ho, Option.toList_some] at ho'
      rcases List.mem_append.mp ho' with h1 | h1
      · exact hP o' h1
      · rw [List.mem_singleton.mp h1]
        exact hb
  · obtain ⟨hP, rfl, rfl⟩ := q
    rw [List.take_length] at hP
    refine sj_end (s1_ret pv_non ?_)
    have : likeness a b = none := by
      unfold likeness
      rw [List.find?_eq_none]
      intro o ho
      rw [hP o ho]
      exact Bool.false_ne_true
    rw [this]
    rfl
abbrev nFirstForm : List Str := ["way", "order"]
theorem scFirstForm : FnScope nFirstForm ["way"] (defScope sFirstForm) := ⟨rfl, rfl, rfl, by decide +kernel, rfl, by decide +kernel, by decide +kernel⟩
theorem exch_eq {a : Way} {o : List Nat} (h : o ∈ orders a.h) : exch a o = ⟨a.h, a.odd, (exch a o).tabs⟩ := by
  have : (exch a o).h = a.h := by
    unfold exch merged sortedWay
    show (List.map _ o).length = _
    rw [List.length_map, orders_row h]
  rw [← this]
  rfl
theorem c_firstForm (F : Fn K mg "first_form" sFirstForm ["way"]) (B : Bi mg) (C : Cal P w K mg base k "orders_of" ["holders"] fOrders) (D : Cal P w K mg base k "exchanged" ["way", "order"] fExch) : Cal P w K mg base (k + 1) "first_form" ["way"] fFirstForm := by
  refine cal_of F fFirstForm scFirstForm (by decide) (fun ds r h => ?_) fun f cdv A outer s H E ds r hr hu h => ?_
  · obtain ⟨_, rfl, _⟩ := h
    rfl
  obtain ⟨a, rfl, hw, rfl⟩ := h
  let fw : List Tab → Da := fun ts => wayD ⟨a.h, a.odd, ts⟩
  obtain ⟨x, xs, e⟩ : ∃ x xs, (orders a.h).map (fun o => (exch a o).tabs) = x :: xs := by
    cases q : (orders a.h).map (fun o => (exch a o).tabs) with
    | nil => exact absurd (List.map_eq_nil_iff.mp q) (orders_ne a.h a.h (Nat.le_refl _))
    | cons x xs => exact ⟨x, xs, rfl⟩
  have hl : (orders a.h).map (fun o => wayD (exch a o)) = fw x :: xs.map fw := by
    have : (orders a.h).map (fun o => wayD (exch a o)) = ((orders a.h).map (fun o => (exch a o).tabs)).map fw := by
      rw [List.map_map]
      exact List.map_congr_left fun o ho => by rw [exch_eq ho]; rfl
    rw [this, e, List.map_cons]
  refine sj_end (s1_ret (PV.cast (pv_min (d := fw x) (ds := xs.map fw) rfl hu (minOk_map (fun a b => alike_wayD _ _) (fun a => nice_wayD _) (by decide) (fun u v q => by
      have := er_inj_of eqv_wayD _ _ q
      injection this) (fun u z => by
      have z : er (wayD _) = PyData.none := z
      unfold wayD at z
      rw [er] at z
      cases z) x xs) (PV.cast (pv_lcX0 (own := [("order", 1)]) (xs := orders a.h) (en := gD) 1 (fun o => wayD (exch a o)) rfl scFirstForm.nd (piv_list (pv_c C hr (pav_cons (pv_ixT (d := nD a.h) (pvn 0 rfl) (pv_int (i := 0)) (j := 0) rfl rfl) pav_nil) ⟨a.h, rfl, hw.1, rfl⟩)) (blkOk_by (N := nFirstForm) (sc := defScope sFirstForm) (by decide +kernel)) (by decide) (fun _ _ _ _ _ => pg_name (FnScope.nd scFirstForm) rfl (.inl rfl))
    (fun o ho _ _ _ _ _ => pv_c D hr (pav_cons (pvn 0 rfl) (pav_cons (pvn 1 rfl) pav_nil)) ⟨a, false, o, rfl, hw, rfl⟩)) (by rw [hl])) B.mi) (minA_map (f := fw) (lt := ltTs) (lt_wayD a.h a.odd) xs x)) ?_)
  unfold firstForm firstTabs
  rw [e]
abbrev nSwapped : List Str := ["holders", "one", "other", "found"]
theorem scSwapped : FnScope nSwapped ["holders", "one", "other"] (defScope sSwapped) := ⟨rfl, rfl, rfl, by decide +kernel, rfl, by decide +kernel, by decide +kernel⟩
theorem c_swapped (F : Fn K mg "swapped" sSwapped ["holders", "one", "other"]) (B : Bi mg) : Cal P w K mg base (k + 1) "swapped" ["holders", "one", "other"] fSwapped := by
  refine cal_of F fSwapped scSwapped (by decide) (fun ds r h => ?_) fun f cdv A outer s H E ds r hr hu h => ?_
  · obtain ⟨_, _, _, rfl, _⟩ := h
    rfl
  obtain ⟨h, i, j, rfl, hh, hi, hj, rfl⟩ := h
  refine sj_is (s1_own (i := 3) scSwapped.nd rfl (Nat.le_of_ble_eq_true rfl) (pnv_range (p4 := ⟨0, 0, 0, 0⟩) (n := h) (by omega) rfl (pvn 0 rfl) B.li B.ra)) ?_
  refine sj_is (s1_swap (i := 1) (j := 2) (m := i) (n := j) rfl rfl rfl rfl (pv_tup (pav_cons (pvn 2 rfl) (pav_cons (pvn 1 rfl) pav_nil))) rfl rfl (by rw [upto_length]; exact hi) (by rw [upto_length]; exact hj)) ?_
  refine sj_freeze (sj_end (s1_ret (PV.cast (pv_tupleL (pvn 3 rfl) B.tu) ?_) rfl))
  unfold swapped gD
  rw [List.map_set, List.map_set]
  rfl
abbrev nEquals : List Str := ["way", "found", "holder", "lot", "other"]
theorem scEquals : FnScope nEquals ["way"] (defScope sEquals) := ⟨rfl, rfl, rfl, by decide +kernel, rfl, by decide +kernel, by decide +kernel⟩
theorem c_equals (F : Fn K mg "equals" sEquals ["way"]) (B : Bi mg) (C : Cal P w K mg base k "swapped" ["holders", "one", "other"] fSwapped) (D : Cal P w K mg base k "exchanged" ["way", "order"] fExch) : Cal P w K mg base (k + 1) "equals" ["way"] fEquals := by
  refine cal_of F fEquals scEquals (by decide) (fun ds r h => ?_) fun f cdv A outer s H E ds r hr hu h => ?_
  · obtain ⟨_, rfl, _⟩ := h
    rfl
  obtain ⟨a, rfl, hw, hne, rfl⟩ := h
  have hh := hw.1
  let ok : Nat → Bool := fun i => (equalLot a i)[0]? == some i
  refine sj_is (s1_own (i := 1) scEquals.nd rfl (Nat.le_of_ble_eq_true rfl) pnv_nil) ?_
  refine sj_cons (s1_forX (i := 2) (xs := List.range a.h) (en := nD) (fun _ => True) (fun _ => [some (wayD a), none, none, none, none]) (fun i => some (1, (((List.range a.h).take i).filter ok).map fun i => gD (equalLot a i))) rfl scEquals.nd rfl (upto_nD a.h ▸ piv_range (n := a.h) (pv_ixT (pvn 0 rfl) (pv_int (i := 0)) (j := 0) rfl rfl) (by omega) rfl B.ra) PassesOwn.never
    (RLe.refl _) (fun _ => rfl) rfl trivial (fun _ _ _ z => by cases z; decide) fun i x hx _ => ?_) fun ρ' ω' q => ?_
  · have hxi : x < a.h := List.mem_range.mp (List.mem_of_getElem? hx)
    obtain ⟨h0, r0, e0⟩ : ∃ h0 r0, equalLot a x = h0 :: r0 := by
      cases q : equalLot a x with
      | nil => exact absurd q (hne x hxi)
      | cons p r => exact ⟨p, r, rfl⟩
    have st := take_filter hx ok
    refine sj_is (s1_lcX (own := [("other", 4)]) (t := 3) (xs := List.range a.h) (en := nD) 4 (fun j => decide (exch a (swapped a.h x j) = a)) nD rfl scEquals.nd rfl (fun _ z => by cases z) rfl rfl (upto_nD a.h ▸ piv_range (n := a.h) (pv_ixT (pvn 0 rfl) (pv_int (i := 0)) (j := 0) rfl rfl) (by omega) rfl B.ra) (blkOk_by (N := nEquals) (sc := defScope sEquals) (by decide +kernel)) (by decide) (fun _ _ _ _ _ => pg_name (FnScope.nd scEquals) rfl (.inl rfl))
      (fun j hj _ _ _ _ _ => pts1 (ptv_eq hr.units (pv_c D hr (pav_cons (pvn 0 rfl) (pav_cons (pv_c C hr (pav_cons (pv_ixT (d := nD a.h) (pvn 0 rfl) (pv_int (i := 0)) (j := 0) rfl rfl) (pav_cons (pvn 2 rfl) (pav_cons (pvn 4 rfl) pav_nil))) ⟨a.h, x, j, rfl, hh, hxi, List.mem_range.mp hj, rfl⟩) pav_nil)) ⟨a, false, swapped a.h x j, rfl, hw, rfl⟩) (pvn 0 rfl) (nice_wayD _).ok (nice_wayD _).ok (eqv_wayD _ _)))
      (fun j _ _ _ _ _ _ _ => pvn 4 rfl)) ?_
    show SJ _ _ [some (wayD a), none, some (nD x), some (.list ((equalLot a x).map nD)), none] _ _ _
    refine sj_one (s1_if (ptv_eq hr.units (pv_ixL (pvn 3 rfl) (pv_int (i := 0)) (j := 0) (d := nD h0) rfl (by rw [e0]; rfl)) (pvn 2 rfl) (nice_nD _).ok (nice_nD _).ok (eqv_nD _ _)) (fun hb => ?_) fun hb => ?_)
    · have hb' : ok x = true := by
        show ((equalLot a x)[0]? == some x) = true
        rw [e0]
        simpa using hb
      rw [hb', if_pos rfl] at st
      refine sj_is (s1_append rfl (by
        rw [List.length_map]
        refine Nat.le_trans (List.length_filter_le _ _) (Nat.le_trans (List.length_take_le _ _) ?_)
        have := (List.getElem?_eq_some_iff.mp hx).1
        rw [List.length_range] at this
        omega) (pv_tupleL (pvn 3 rfl) B.tu)) (sj_nil ?_)
      exact ⟨trivial, rl_same (rl_none (rl_none (rl_none (rl_none rl_nil)))), rfl, by rw [st, List.map_append]; rfl⟩
    · have hb' : ok x = false := by
        show ((equalLot a x)[0]? == some x) = false
        rw [e0]
        simpa using hb
      rw [hb', if_neg Bool.false_ne_true, List.append_nil] at st
      refine sj_nil ?_
      exact ⟨trivial, rl_same (rl_none (rl_none (rl_none (rl_none rl_nil)))), rfl, by rw [st]⟩
  · obtain ⟨_, rfl, rfl⟩ := q
    rw [List.take_length]
    refine sj_freeze (sj_end (s1_ret (pv_tupleL (pvn 1 rfl) B.tu) ?_))
    show Da.tuple false _ = lotsD _
    unfold lotsD equals
    rw [List.map_map]
    rfl
end
end K42
/-! ## KDefF -/
namespace K42
open PySem PySem.Spec L2
open PyProof.Rows hiding St
abbrev sTableBy : Stmt := topS 36
abbrev sSlim : Stmt := topS 37
def fTableBy : List Da → Da → Prop := fun ds r => ∃ (h : Nat) (ns : List Nat), ds = [nD h, .list (ns.map nD)] ∧ h ≤ 5 ∧ (∀ n ∈ ns, n ≤ 100) ∧ r = tabD (tableBy h ns)
def fSlim : List Da → Da → Prop := fun ds r => ∃ w : Way, ds = [wayD w] ∧ w.h ≤ 5 ∧ 2 ≤ w.tabs.length ∧ w.tabs.length ≤ 100 ∧ (∀ t ∈ w.tabs, t.length ≤ 100) ∧ r = wayD (slim w)
/-! what the rows hold -/
theorem minL_le : ∀ (xs : List Nat) (x : Nat), minL ltN x xs ≤ x ∧ ∀ y ∈ xs, minL ltN x xs ≤ y
  | [], x => ⟨Nat.le_refl _, fun _ h => nomatch h⟩
  | y :: ys, x => by
    have h := minL_le ys (if ltN y x then y else x)
    have e : minL ltN x (y :: ys) = minL ltN (if ltN y x then y else x) ys := rfl
    rw [e]
    have h1 : (if ltN y x then y else x) ≤ x ∧ (if ltN y x then y else x) ≤ y := by
      unfold ltN
      by_cases q : y < x
      · rw [if_pos (decide_eq_true q)]; omega
      · rw [if_neg (by rw [decide_eq_true_eq]; exact q)]; omega
    refine ⟨Nat.le_trans h.1 h1.1, fun z hz => ?_⟩
    rcases List.mem_cons.mp hz with rfl | hz
    · exact Nat.le_trans h.1 h1.2
    · exact h.2 z hz
theorem minN_le {xs : List Nat} {y : Nat} (h : y ∈ xs) : minN xs ≤ y := by
  cases xs with
  | nil => cases h
  | cons x xs =>
    rcases List.mem_cons.mp h with rfl | h
    · exact (minL_le xs y).1
    · exact (minL_le xs x).2 y h
theorem rowOf_len (h : Nat) (t : Tab) : (rowOf h t).length = (groups h).length := by unfold rowOf; rw [List.length_map]
theorem rowOf_le {h : Nat} {t : Tab} {n : Nat} (hn : n ∈ rowOf h t) : n ≤ t.length := by
  unfold rowOf at hn
  obtain ⟨g, _, rfl⟩ := List.mem_map.mp hn
  exact List.count_le_length
theorem zip_common {w : Way} {row : List Nat} (hr : row ∈ w.tabs.map (rowOf w.h)) {q : Nat × Nat} (hq : q ∈ row.zip (commonOf w)) : q.2 ≤ q.1 := by
  obtain ⟨i, hi⟩ := List.mem_iff_getElem?.mp hq
  have hz := List.getElem?_zip_eq_some.mp hi
  obtain ⟨h1, h2⟩ := hz
  unfold commonOf at h2
  rw [List.getElem?_map] at h2
  cases hr2 : (List.range (groups w.h).length)[i]? with
  | none => rw [hr2] at h2; cases h2
  | some k =>
    rw [hr2] at h2
    have h2 : some _ = some _ := h2
    injection h2 with h2
    rw [← h2]
    have hk : k = i := by
      have := (List.getElem?_eq_some_iff.mp hr2)
      obtain ⟨_, e⟩ := this
      rw [List.getElem_range] at e
      exact e.symm
    subst hk
    refine minN_le (List.mem_map.mpr ⟨row, hr, ?_⟩)
    rw [List.getD_eq_getElem?_getD, h1]
    rfl
theorem count_gD (t : Tab) (g : Grp) : ((t.map gD).countP fun z => PyData.eqv (er z) (er (gD g))) = t.count g := by
  rw [List.countP_map]
  unfold List.count
  refine List.countP_congr fun x _ => ?_
  show PyData.eqv (er (gD x)) (er (gD g)) = true ↔ _
  rw [eqv_gD, decide_eq_true_eq, beq_iff_eq]
theorem nD_sum : ∀ ns : List Nat, (ns.map fun n : Nat => (n : Int)).sum = ((ns.sum : Nat) : Int)
  | [] => rfl
  | n :: ns => by rw [List.map_cons, List.sum_cons, List.sum_cons, nD_sum ns]; omega
theorem rep_one {α : Type} (x : α) : ∀ n : Nat, (List.replicate n [x]).flatten = List.replicate n x
  | 0 => rfl
  | n + 1 => by rw [List.replicate_succ, List.flatten_cons, rep_one x n, List.replicate_succ]; rfl
theorem tableBy_len (ns : List Nat) (h : ∀ n ∈ ns, n ≤ 100) : ∀ gs : List Grp, ((gs.zip ns).flatMap fun q => List.replicate q.2 q.1).length ≤ gs.length * 100 := by
  induction ns with
  | nil => intro gs; rw [List.zip_nil_right]; exact Nat.zero_le _
  | cons n ns ih =>
    intro gs
    cases gs with
    | nil => exact Nat.zero_le _
    | cons g gs =>
      rw [List.zip_cons_cons, List.flatMap_cons, List.length_append, List.length_replicate, List.length_cons, Nat.succ_mul]
      have := h n List.mem_cons_self
      have := ih (fun m hm => h m (List.mem_cons_of_mem _ hm)) gs
      show n + _ ≤ _
      omega
theorem take_zip {α β : Type} : ∀ (xs : List α) (ys : List β) (i : Nat), (xs.zip ys).take i = (xs.take i).zip (ys.take i)
  | _, _, 0 => by simp
  | [], _, i + 1 => by simp
  | x :: xs, [], i + 1 => by simp
  | x :: xs, y :: ys, i + 1 => by rw [List.zip_cons_cons, List.take_succ_cons, List.take_succ_cons, List.take_succ_cons, List.zip_cons_cons, take_zip xs ys i]
section
variable {P : Program} {w : World} {K : PySem.W.Frag} {mg : Str → Option Value} {base : Heap} {k : Nat}
abbrev nTableBy : List Str := ["holders", "numbers", "found", "dot", "many"]
theorem scTableBy : FnScope nTableBy ["holders", "numbers"] (defScope sTableBy) := ⟨rfl, rfl, rfl, by decide +kernel, rfl, by decide +kernel, by decide +kernel⟩
theorem c_tableBy (F : Fn K mg "table_by" sTableBy ["holders", "numbers"]) (B : Bi mg) (C : Cal P w K mg base k "groups" ["holders"] fGroups) : Cal P w K mg base (k + 1) "table_by" ["holders", "numbers"] fTableBy := by
  refine cal_of F fTableBy scTableBy (by decide) (fun ds r h => ?_) fun f cdv A outer s H E ds r hr hu h => ?_
  · obtain ⟨_, _, rfl, _⟩ := h
    rfl
  obtain ⟨h, ns, rfl, hh, hns, rfl⟩ := h
  refine sj_is (s1_own (i := 2) scTableBy.nd rfl (Nat.le_of_ble_eq_true rfl) pnv_nil) ?_
  refine sj_cons (s1_forX2 (i := 3) (j := 4) (xs := (groups h).zip ns) (en := fun q => gD q.1) (en' := fun q => nD q.2) (fun _ => True) (fun _ => [some (nD h), some (.list (ns.map nD)), none, none, none]) (fun i => some (2, ((((groups h).zip ns).take i).flatMap fun q => List.replicate q.2 q.1).map gD)) rfl scTableBy.nd rfl rfl
    (pairs_zip gD nD (groups h) ns ▸ piv_zipM (pv_c C hr (pav_cons (pvn 0 rfl) pav_nil) ⟨h, rfl, hh, rfl⟩) (pvn 1 rfl) rfl B.zi) PassesOwn.never (RLe.refl _) (fun _ => rfl) rfl trivial (fun i l es z => by cases z; exact ⟨by decide, by decide⟩) (fun i q hq _ => ?_)
    (pg_pair rfl scTableBy.nd rfl rfl (.inl rfl) (.inl rfl))) fun ρ' ω' q => ?_
  · have hm := List.of_mem_zip (List.mem_of_getElem? hq)
    have hn := hns _ hm.2
    have hl : (((((groups h).zip ns).take i).flatMap fun q => List.replicate q.2 q.1).map gD).length ≤ 3200 := by
      rw [List.length_map]
      have h1 : (((groups h).zip ns).take i) = ((groups h).take i).zip (ns.take i) := take_zip _ _ _
      rw [h1]
      have h2 := groups_len hh
      have h3 : ((groups h).take i).length ≤ (groups h).length := by rw [List.length_take]; omega
      refine Nat.le_trans (tableBy_len (ns.take i) (fun n hn => hns n (List.mem_of_mem_take hn)) ((groups h).take i)) ?_
      omega
    refine sj_is (s1_extend (es := (List.replicate q.2 q.1).map gD) rfl (by rw [List.length_map (as := List.replicate q.2 q.1), List.length_replicate]; omega) (PV.cast (pv_repL (k := max 0 (q.2 : Int)) (xs := [gD q.1]) (by omega) (by omega) (by show 1 * _ ≤ _; omega) (pv_lst (pav_cons (pvn 3 rfl) pav_nil)) (pv_max2 rfl pv_int (pvn 4 rfl) B.ma)) (by
      rw [rep_one, List.map_replicate]
      congr 2))) (sj_nil ?_)
    refine ⟨trivial, rl_same (rl_same (rl_none (rl_none (rl_none rl_nil)))), rfl, ?_⟩
    rw [List.take_add_one, hq, Option.toList_some, List.flatMap_append, List.flatMap_singleton, List.map_append]
  · obtain ⟨_, rfl, rfl⟩ := q
    rw [List.take_length]
    exact sj_freeze (sj_end (s1_ret (pv_tupleF (pvn 2 rfl) B.tu) rfl))
abbrev nSlim : List Str := ["way", "holders", "mode", "tables", "order", "rows", "table", "common", "less", "dot", "at", "row", "many", "own"]
theorem scSlim : FnScope nSlim ["way"] (defScope sSlim) := ⟨rfl, rfl, rfl, by decide +kernel, rfl, by decide +kernel, by decide +kernel⟩
theorem c_slim (F : Fn K mg "slim" sSlim ["way"]) (B : Bi mg) (C : Cal P w K mg base k "groups" ["holders"] fGroups) (D : Cal P w K mg base k "table_by" ["holders", "numbers"] fTableBy) : Cal P w K mg base (k + 1) "slim" ["way"] fSlim := by
  refine cal_of F fSlim scSlim (by decide) (fun ds r h => ?_) fun f cdv A outer s H E ds r hr hu h => ?_
  · obtain ⟨_, rfl, _⟩ := h
    rfl
  obtain ⟨w, rfl, hh, h2, hz, ht, rfl⟩ := h
  have hgl := groups_len hh
  let rowD : List Nat → Da := fun row => .list (row.map nD)
  have rowsEq : ∀ i, ((w.tabs.take i).map (rowOf w.h)).map rowD = (w.tabs.take i).map fun t => rowD (rowOf w.h t) := fun i => by rw [List.map_map]; rfl
  refine sj_is (s1_unpack (is := [1, 2, 3]) (ds := [nD w.h, modeD w.odd, tabsD w.tabs]) (k := false) rfl (pvn 0 rfl) (pgs_cons (pg_name scSlim.nd rfl (.inr rfl)) (pgs_cons (pg_name scSlim.nd rfl (.inl rfl)) (pgs_cons (pg_name scSlim.nd rfl (.inl rfl)) pgs_nil rfl) rfl) rfl) (.cons (.cons (.cons .nil))) rfl rfl (fun _ _ _ z => nomatch z)) ?_
  refine sj_is (s1_pairOwn (i := 4) (j := 5) (da := lotsD (groups w.h)) rfl scSlim.nd rfl rfl (by decide) (Nat.le_of_ble_eq_true rfl) (pv_c C hr (pav_cons (pvn 1 rfl) pav_nil) ⟨w.h, rfl, hh, rfl⟩)) ?_
  refine sj_cons (s1_forX (i := 6) (xs := w.tabs) (en := tabD) (fun _ => True) (fun _ => [some (wayD w), some (nD w.h), some (modeD w.odd), some (tabsD w.tabs), some (lotsD (groups w.h)), none, none, none, none, none, none, none, none, none]) (fun i => some (5, ((w.tabs.take i).map (rowOf w.h)).map rowD)) rfl scSlim.nd rfl (piv_tup (pvn 3 rfl)) PassesOwn.never
    (RLe.refl _) (fun _ => rfl) rfl trivial (fun _ _ _ z => by cases z; decide) fun i t hti _ => ?_) fun ρ' ω' q => ?_
  · have hm : t ∈ w.tabs := List.mem_of_getElem? hti
    refine sj_is (s1_append (d := rowD (rowOf w.h t)) rfl (by rw [List.length_map, List.length_map, List.length_take]; omega) (PV.cast (pv_lcX0 (own := [("dot", 9)]) (xs := groups w.h) (en := gD) 9 (fun g => nD (t.count g)) rfl scSlim.nd (piv_tup (pvn 4 rfl)) (blkOk_by (N := nSlim) (sc := defScope sSlim) (by decide +kernel)) (by decide) (fun _ _ _ _ _ => pg_name (FnScope.nd scSlim) rfl (.inl rfl))
      (fun g _ _ _ _ _ _ => PV.cast (pv_count hu (pvn 6 rfl) (pvn 9 rfl) (nice_gD g).ok (plain_map nice_gD t)) (by rw [count_gD]; rfl))) (by show _ = Da.list _; unfold rowOf; rw [List.map_map]; rfl))) (sj_nil ?_)
    refine ⟨trivial, rl_same (rl_same (rl_same (rl_same (rl_same (rl_none (rl_none (rl_none (rl_none (rl_none (rl_none (rl_none (rl_none (rl_none rl_nil))))))))))))), rfl, ?_⟩
    rw [List.take_add_one, hti, Option.toList_some, List.map_append, List.map_append]
    rfl
  obtain ⟨_, rfl, rfl⟩ := q
  rw [List.take_length]
  refine sj_freeze ?_
  have hrows : ∀ row ∈ w.tabs.map (rowOf w.h), row.length = (groups w.h).length ∧ ∀ n ∈ row, n ≤ 100 := fun row hrow => by
    obtain ⟨t, h1, rfl⟩ := List.mem_map.mp hrow
    exact ⟨rowOf_len _ _, fun n hn => Nat.le_trans (rowOf_le hn) (ht t h1)⟩
  refine sj_is (s1_set (i := 7) scSlim.nd rfl (pv_lcX0 (own := [("at", 10)]) (xs := List.range (groups w.h).length) (en := nD) 10 (fun a => nD (minN ((w.tabs.map (rowOf w.h)).map fun row => row.getD a 0))) rfl scSlim.nd (upto_nD (groups w.h).length ▸ piv_range (n := (groups w.h).length) (PV.cast (pv_lenT (k := false) (ds := (groups w.h).map gD) (pvn 4 rfl) B.le) (by rw [List.length_map])) (by omega) rfl B.ra) (blkOk_by (N := nSlim) (sc := defScope sSlim) (by decide +kernel)) (by decide) (fun _ _ _ _ _ => pg_name (FnScope.nd scSlim) rfl (.inr rfl))
    (fun a ha _ _ _ _ _ => ?_)) (fun _ z => nomatch z)) ?_
  · have ha' := List.mem_range.mp ha
    obtain ⟨x, xs, e⟩ : ∃ x xs, (w.tabs.map (rowOf w.h)).map (fun row => row.getD a 0) = x :: xs := by
      cases q : (w.tabs.map (rowOf w.h)).map (fun row => row.getD a 0) with
      | nil =>
        have := congrArg List.length q
        rw [List.length_map, List.length_map] at this
        simp only [List.length_nil] at this
        omega
      | cons x xs => exact ⟨x, xs, rfl⟩
    rw [e]
    refine PV.cast (pv_min (d := nD x) (ds := xs.map nD) rfl hu (minOk_map alike_nD nice_nD (by decide) (er_inj_of eqv_nD) (fun a z => by rw [er_nD] at z; cases z) x xs) (PV.cast (pv_lcX0 (own := [("row", 11)]) (xs := w.tabs.map (rowOf w.h)) (en := rowD) 11 (fun row => nD (row.getD a 0)) rfl scSlim.nd (piv_list (pvn 5 rfl)) (blkOk_by (N := nSlim) (by kernel_rfl)) (by decide) (fun _ _ _ _ _ => pg_name (FnScope.nd scSlim) rfl (.inl rfl))
      (fun row hrow _ _ _ _ _ => pv_ixL (ds := row.map nD) (pvn 11 rfl) (pvn 10 rfl) (j := a) rfl (by
        have hl := (hrows row hrow).1
        rw [List.getElem?_map, List.getElem?_eq_getElem (by omega), getD_at (by omega)]
        rfl))) ?_) B.mi) (minA_map lt_nD xs x)
    have := congrArg (List.map nD) e
    rw [List.map_map, List.map_cons] at this
    rw [← this]
    rfl
  have hcom : (List.range (groups w.h).length).map (fun a => nD (minN ((w.tabs.map (rowOf w.h)).map fun row => row.getD a 0))) = (commonOf w).map nD := by
    unfold commonOf
    rw [List.map_map]
    rfl
  rw [hcom]
  obtain ⟨t0, ts0, e0⟩ : ∃ t ts, w.tabs = t :: ts := by
    cases q : w.tabs with
    | nil => rw [q] at h2; exact absurd h2 (by decide)
    | cons x xs => exact ⟨x, xs, rfl⟩
  refine sj_cons (s1_if (N := fun ρ' ω' => Is [some (wayD w), some (nD w.h), some (modeD w.odd), some (tabsD w.tabs), some (lotsD (groups w.h)), some (.list ((w.tabs.map (rowOf w.h)).map rowD)), none, some (.list ((commonOf w).map nD)), none, none, none, none, none, none] none ρ' ω' ∧ ¬ (commonOf w).sum = (w.tabs.getD 0 []).length) (b := decide ((commonOf w).sum = (w.tabs.getD 0 []).length)) (ptv_eq hr.units (PV.cast (d' := nD (commonOf w).sum) (pv_sum (ns := (commonOf w).map fun n : Nat => (n : Int)) rfl (PV.cast (pvn 7 rfl) (by rw [map_nD])) B.su) (by rw [nD_sum]; rfl))
    (PV.cast (d' := nD (w.tabs.getD 0 []).length) (pv_lenT (k := true) (ds := t0.map gD) (pv_ixT (kd := false) (ds := w.tabs.map tabD) (pvn 3 rfl) (pv_int (i := 0)) (j := 0) rfl (by rw [e0]; rfl)) B.le) (by rw [List.length_map, e0]; rfl)) (nice_nD _).ok (nice_nD _).ok (eqv_nD _ _)) (fun hb => ?_) (fun hb => sj_nil ⟨⟨rfl, rfl⟩, of_decide_eq_false hb⟩)) fun ρ2 ω2 q2 => ?_
  · have hb := of_decide_eq_true hb
    refine sj_end (s1_ret (PV.cast (pv_tup (pav_cons (pvn 1 rfl) (pav_cons (pvn 2 rfl) (pav_cons (pv_repT (k := (w.tabs.length : Int)) (kd := false) (xs := [tabD [[]]]) (by omega) (by omega) (fun z => nomatch z) (by decide) (pv_tup (pav_cons (pv_tupF (pav_cons (pv_tup pav_nil) pav_nil)) pav_nil)) (PV.cast (pv_lenT (k := false) (ds := w.tabs.map tabD) (pvn 3 rfl) B.le) (by rw [List.length_map]))) pav_nil)))) ?_) rfl)
    unfold slim
    rw [if_pos hb, rep_one, Int.toNat_natCast]
    unfold wayD tabsD
    rw [List.map_replicate]
  obtain ⟨⟨rfl, rfl⟩, hcase⟩ := q2
  refine sj_is (s1_lcX (own := [("row", 11)]) (t := 8) (xs := w.tabs.map (rowOf w.h)) (en := rowD) 11 (fun _ => true) (fun row => rowD ((row.zip (commonOf w)).map fun q => q.1 - q.2)) rfl scSlim.nd rfl (fun _ z => nomatch z) rfl rfl (piv_list (pvn 5 rfl)) (blkOk_by (N := nSlim) (sc := defScope sSlim) (by decide +kernel)) (by decide) (fun _ _ _ _ _ => pg_name (FnScope.nd scSlim) rfl (.inl rfl))
    (fun _ _ _ _ _ _ _ => .inl ⟨rfl, rfl⟩) (fun row hrow _ _ _ _ _ _ => PV.cast (pv_lcX2 (own := [("many", 12), ("own", 13)]) (xs := row.zip (commonOf w)) (en := fun q => nD q.1) (en' := fun q => nD q.2) 12 13 (fun _ => true) (fun q => nD (q.1 - q.2)) rfl scSlim.nd (pairs_zip nD nD row (commonOf w) ▸ piv_zipL (pvn 11 rfl) (pvn 7 rfl) rfl B.zi) (blkOk_by (N := nSlim) (by kernel_rfl)) (by decide) (by decide)
      (fun _ _ _ _ _ => pg_pair rfl scSlim.nd rfl rfl (.inl rfl) (.inl rfl)) (fun _ _ _ _ _ _ _ => .inl ⟨rfl, rfl⟩)
      (fun q hq _ _ _ _ _ _ => PV.cast (pv_subI (pvn 12 rfl) (pvn 13 rfl)) (by
        have := zip_common hrow hq
        show Da.int _ = Da.int _
        congr 1
        omega))) (by rw [List.filter_eq_self.mpr (fun _ _ => rfl)]; show _ = Da.list _; rw [List.map_map]; rfl))) ?_
  rw [List.filter_eq_self.mpr (fun _ _ => rfl)]
  have hless : (w.tabs.map (rowOf w.h)).map (fun row => rowD ((row.zip (commonOf w)).map fun q => q.1 - q.2)) = (lessOf w).map rowD := by
    unfold lessOf
    rw [List.map_map, List.map_map, List.map_map]
    rfl
  rw [hless]
  refine sj_end (s1_ret (PV.cast (pv_tup (pav_cons (pvn 1 rfl) (pav_cons (pvn 2 rfl) (pav_cons (pv_tupleL (pv_lcX0 (own := [("row", 11)]) (xs := lessOf w) (en := rowD) 11 (fun row => tabD (tableBy w.h row)) rfl scSlim.nd (piv_list (pvn 8 rfl)) (blkOk_by (N := nSlim) (sc := defScope sSlim) (by decide +kernel)) (by decide) (fun _ _ _ _ _ => pg_name (FnScope.nd scSlim) rfl (.inl rfl))
    (fun row hrow _ _ _ _ _ => pv_c D hr (pav_cons (pvn 1 rfl) (pav_cons (pvn 11 rfl) pav_nil)) ⟨w.h, row, rfl, hh, fun n hn => ?_, rfl⟩)) B.tu) pav_nil)))) ?_) rfl)
  · unfold lessOf at hrow
    obtain ⟨row0, h0, rfl⟩ := List.mem_map.mp hrow
    obtain ⟨q, hq, rfl⟩ := List.mem_map.mp hn
    have := (hrows row0 h0).2 q.1 (List.of_mem_zip hq).1
    omega
  · unfold slim
    rw [if_neg hcase]
    unfold wayD tabsD
    rw [List.map_map]
    rfl
end
end K42
/-! ## KDefG -/
namespace K42
open PySem PySem.Spec L2
open PyProof.Rows hiding St
abbrev sLawGroups : Stmt := topS 43
abbrev sLed : Stmt := topS 46
abbrev sBack : Stmt := topS 47
abbrev sSeen : Stmt := topS 48
abbrev sEqR : Stmt := topS 49
def ordD (o : List Nat) : Da := .tuple true (o.map nD)
/-- what is seen behind an exchange of names -/
structure Seen (w : Way) (o : List Nat) : Prop where
  ok : WOk w
  ok2 : WOk (exch w o)
  two : 2 ≤ w.tabs.length
  few : w.tabs.length ≤ 100
  hh : (exch w o).h = w.h
  tt : (exch w o).tabs.length = w.tabs.length
  inn : ∀ g ∈ groups w.h, g.length ≤ 5 ∧ ∀ x ∈ g, x < o.length
  told : ∀ g ∈ groups w.h, told (exch w o) g = told w (led o g)
  shown : ∀ g ∈ groups w.h, shown (exch w o) g = shown w (led o g)
  light : ∀ g ∈ groups w.h, ∀ i, i < w.tabs.length → light (exch w o) i g = light w i (led o g)
  part : ∀ g ∈ groups w.h, (unlikePart (exch w o) 0 1 g).map List.length = (unlikePart w 0 1 (led o g)).map List.length
  binn : ∀ g ∈ blind w, ∀ x ∈ g, x ∈ o
  sinn : ∀ g ∈ sighted w, ∀ x ∈ g, x ∈ o
  einn : ∀ g ∈ equals w, ∀ x ∈ g, x ∈ o
  blind : blind (exch w o) = back o (blind w)
  sighted : sighted (exch w o) = back o (sighted w)
  e1 : ∀ i, i < w.h → equalLot w i ≠ []
  e2 : ∀ i, i < (exch w o).h → equalLot (exch w o) i ≠ []
  equals : equals (exch w o) = back o (equals w)
structure EqR (w : Way) : Prop where
  ok : WOk w
  two : 2 ≤ w.tabs.length
  few : w.tabs.length ≤ 100
  e1 : ∀ i, i < w.h → equalLot w i ≠ []
  inn : ∀ g ∈ groups w.h, g.length ≤ 5
  same : ∀ lot ∈ equals w, ∀ q ∈ lot.zip (lot.drop 1), ∀ g ∈ groups w.h, q.1 ∉ g → q.2 ∉ g → told w (sortBy ltN (g ++ [q.1])) = told w (sortBy ltN (g ++ [q.2])) ∧ light w 0 (sortBy ltN (g ++ [q.1])) = light w 0 (sortBy ltN (g ++ [q.2]))
def fLawGroups : List Da → Da → Prop := fun ds r => ∃ n : Nat, ds = [nD n] ∧ n ≤ 5 ∧ r = .list ((groups n).map gD)
def fLed : List Da → Da → Prop := fun ds r => ∃ (k : Bool) (o : List Nat) (g : Grp), ds = [.tuple k (o.map nD), gD g] ∧ (∀ x ∈ g, x < o.length) ∧ r = gD (led o g)
def fBack : List Da → Da → Prop := fun ds r => ∃ (o : List Nat) (lots : List Grp), ds = [ordD o, lotsD lots] ∧ (∀ g ∈ lots, ∀ x ∈ g, x ∈ o) ∧ r = lotsD (back o lots)
def fSeen : List Da → Da → Prop := fun ds r => ∃ (w : Way) (o : List Nat), ds = [wayD w, ordD o] ∧ Seen w o ∧ r = .bool true
def fEqR : List Da → Da → Prop := fun ds r => ∃ w : Way, ds = [wayD w] ∧ EqR w ∧ r = .bool true
theorem idx_int (o : List Nat) (x : Nat) : (o.map fun n : Nat => (n : Int)).idxOf (x : Int) = o.idxOf x := by
  induction o with
  | nil => rfl
  | cons a o ih =>
    rw [List.map_cons, List.idxOf_cons, List.idxOf_cons, ih]
    by_cases e : a = x
    · subst e; simp
    · have : ¬ (a : Int) = (x : Int) := fun z => e (Int.ofNat.inj z)
      rw [beq_false_of_ne this, beq_false_of_ne e]
theorem isNone_opt (x : Option Grp) : isNone (optD x) = x.isNone := by cases x <;> rfl
section
variable {P : Program} {w : World} {K : PySem.W.Frag} {mg : Str → Option Value} {base : Heap} {k : Nat}
abbrev nLawGroups : List Str := ["_law_holders", "_law_found", "_law_holder", "_law_group"]
theorem scLawGroups : FnScope nLawGroups ["_law_holders"] (defScope sLawGroups) := ⟨rfl, rfl, rfl, by decide +kernel, rfl, by decide +kernel, by decide +kernel⟩
theorem c_lawGroups (F : Fn K mg "_law_groups" sLawGroups ["_law_holders"]) (B : Bi mg) : Cal P w K mg base (k + 1) "_law_groups" ["_law_holders"] fLawGroups := by
  refine cal_of F fLawGroups scLawGroups (by decide) (fun ds r h => ?_) fun f cdv A outer s H E ds r hr hu h => ?_
  · obtain ⟨_, rfl, _⟩ := h
    rfl
  obtain ⟨n, rfl, hn, rfl⟩ := h
  have hg : (List.range n).length ≤ 5 := by rw [List.length_range]; exact hn
  refine sj_is (s1_set (i := 1) (d := .list ([[]].map gD)) scLawGroups.nd rfl (pv_lst (pav_cons (pv_tup pav_nil) pav_nil)) (fun _ z => nomatch z)) ?_
  refine sj_cons (s1_forX (i := 2) (xs := List.range n) (en := nD) (fun _ => True) (fun i => [some (nD n), some (.list ((partsU ((List.range n).take i) [[]]).map gD)), none, none]) (fun _ => none) rfl scLawGroups.nd rfl (upto_nD n ▸ piv_range (pvn 0 rfl) (by omega) rfl B.ra) PassesOwn.never
    (RLe.refl _) (fun _ => rfl) rfl trivial (fun _ _ _ z => nomatch z) fun i a ha _ => ?_) fun ρ' ω' h => ?_
  · have e : partsU ((List.range n).take (i + 1)) [[]] = partsU ((List.range n).take i) [[]] ++ (partsU ((List.range n).take i) [[]]).map (· ++ [a]) := by
      rw [List.take_add_one, ha, Option.toList_some, partsU_snoc]
    have hz := partsU_small hg i
    refine sj_is (s1_set (i := 1) (d := .list ((partsU ((List.range n).take (i + 1)) [[]]).map gD)) scLawGroups.nd rfl (PV.cast (pv_catL (ys := (partsU ((List.range n).take i) [[]]).map fun o => gD (o ++ [a])) (by rw [List.length_map, List.length_map]; omega) (pvn 1 rfl)
      (pv_lcX0 (own := [("_law_group", 3)]) 3 (fun o => gD (o ++ [a])) rfl scLawGroups.nd (piv_list (pvn 1 rfl)) (blkOk_by (N := nLawGroups) (sc := defScope sLawGroups) (by decide +kernel)) (by decide) (fun _ _ _ _ _ => pg_name (FnScope.nd scLawGroups) rfl (.inl rfl))
        fun o ho _ _ _ _ _ => PV.cast (pv_catT (ys := [nD a]) (by have := partsU_short hg i o ho; rw [List.length_map]; show o.length + 1 ≤ 100000; omega) (pvn 3 rfl) (pv_tup (pav_cons (pvn 2 rfl) pav_nil))) (by unfold gD; rw [List.map_append]; rfl)))
      (by rw [e, List.map_append, List.map_map]; rfl)) (fun _ z => nomatch z)) (sj_nil ?_)
    exact ⟨trivial, rl_same (rl_same (rl_none (rl_none rl_nil))), rfl, rfl⟩
  · obtain ⟨_, rfl, rfl⟩ := h
    rw [List.length_range, List.take_of_length_le (by rw [List.length_range]; exact Nat.le_refl _)]
    exact sj_end (s1_ret (PV.cast (pv_sortedL hu (sortOk_gD _) (pvn 1 rfl) B.so) (by rw [parts_map]; rfl)) rfl)
abbrev nLed : List Str := ["_law_order", "_law_group", "_law_holder"]
theorem scLed : FnScope nLed ["_law_order", "_law_group"] (defScope sLed) := ⟨rfl, rfl, rfl, by decide +kernel, rfl, by decide +kernel, by decide +kernel⟩
theorem c_led (F : Fn K mg "_law_led" sLed ["_law_order", "_law_group"]) (B : Bi mg) : Cal P w K mg base (k + 1) "_law_led" ["_law_order", "_law_group"] fLed := by
  refine cal_of F fLed scLed (by decide) (fun ds r h => ?_) fun f cdv A outer s H E ds r hr hu h => ?_
  · obtain ⟨_, _, _, rfl, _⟩ := h
    rfl
  obtain ⟨kd, o, g, rfl, hg, rfl⟩ := h
  refine sj_end (s1_ret (PV.cast (pv_tupleL (pv_sortedL hu (sortOk_nD (g.map fun x => o.getD x 0)) (PV.cast (pv_lcX0 (own := [("_law_holder", 2)]) 2 (fun x => nD (o.getD x 0)) rfl scLed.nd (piv_tup (pvn 1 rfl)) (blkOk_by (N := nLed) (sc := defScope sLed) (by decide +kernel)) (by decide) (fun _ _ _ _ _ => pg_name (FnScope.nd scLed) rfl (.inl rfl))
    (fun x hx _ _ _ _ _ => pv_ixT (kd := kd) (ds := o.map nD) (pvn 0 rfl) (pvn 2 rfl) (j := x) rfl (by rw [List.getElem?_map, List.getElem?_eq_getElem (hg x hx), getD_at (hg x hx)]; rfl))) (by rw [List.map_map]; rfl)) B.so) B.tu) (by rw [msort_map lt_nD]; rfl)) rfl)
abbrev nBack : List Str := ["_law_order", "_law_lots", "_law_lot", "_law_holder"]
theorem scBack : FnScope nBack ["_law_order", "_law_lots"] (defScope sBack) := ⟨rfl, rfl, rfl, by decide +kernel, rfl, by decide +kernel, by decide +kernel⟩
theorem c_back (F : Fn K mg "_law_back" sBack ["_law_order", "_law_lots"]) (B : Bi mg) : Cal P w K mg base (k + 1) "_law_back" ["_law_order", "_law_lots"] fBack := by
  refine cal_of F fBack scBack (by decide) (fun ds r h => ?_) fun f cdv A outer s H E ds r hr hu h => ?_
  · obtain ⟨_, _, rfl, _⟩ := h
    rfl
  obtain ⟨o, lots, rfl, hin, rfl⟩ := h
  refine sj_end (s1_ret (PV.cast (pv_tupleL (pv_sortedL hu (sortOk_gD (lots.map fun lot => sortBy ltN (lot.map fun x => o.idxOf x))) (PV.cast (pv_lcX0 (own := [("_law_lot", 2)]) 2 (fun lot => gD (sortBy ltN (lot.map fun x => o.idxOf x))) rfl scBack.nd (piv_tup (pvn 1 rfl)) (blkOk_by (N := nBack) (sc := defScope sBack) (by decide +kernel)) (by decide) (fun _ _ _ _ _ => pg_name (FnScope.nd scBack) rfl (.inl rfl))
    (fun lot hlot _ _ _ _ _ => PV.cast (pv_tupleL (pv_sortedL hu (sortOk_nD (lot.map fun x => o.idxOf x)) (PV.cast (pv_lcX0 (own := [("_law_holder", 3)]) 3 (fun x => nD (o.idxOf x)) rfl scBack.nd (piv_tup (pvn 2 rfl)) (blkOk_by (N := nBack) (by kernel_rfl)) (by decide) (fun _ _ _ _ _ => pg_name (FnScope.nd scBack) rfl (.inl rfl))
      (fun x hx _ _ _ _ _ => PV.cast (pv_index (ns := o.map fun n : Nat => (n : Int)) (i := (x : Int)) hu (PV.cast (pvn 0 rfl) (by unfold ordD; rw [map_nD])) (pvn 3 rfl) (List.mem_map.mpr ⟨x, hin lot hlot x hx, rfl⟩)) (by rw [idx_int]; rfl))) (by rw [List.map_map]; rfl)) B.so) B.tu) (by rw [msort_map lt_nD]; rfl))) (by rw [List.map_map]; rfl)) B.so) B.tu) (by rw [msort_map lt_gD]; rfl)) rfl)
abbrev nSeen : List Str := ["_law_way_here", "_law_order", "_law_other", "_law_group", "_law_own", "_law_tone", "_law_part", "_law_due"]
theorem scSeen : FnScope nSeen ["_law_way_here", "_law_order"] (defScope sSeen) := ⟨rfl, rfl, rfl, by decide +kernel, rfl, by decide +kernel, by decide +kernel⟩
theorem c_seen (F : Fn K mg "_law_seen_right" sSeen ["_law_way_here", "_law_order"]) (B : Bi mg) (cx : Cal P w K mg base k "exchanged" ["way", "order"] fExch) (cg : Cal P w K mg base k "groups" ["holders"] fGroups) (cl : Cal P w K mg base k "_law_led" ["_law_order", "_law_group"] fLed)
    (ct : Cal P w K mg base k "told" ["way", "group"] fTold) (csh : Cal P w K mg base k "shown" ["way", "group"] fShown) (cli : Cal P w K mg base k "light" ["way", "tone", "group"] fLight) (cu : Cal P w K mg base k "unlike_part" ["way", "one", "other", "group"] fUnlike)
    (cb : Cal P w K mg base k "blind" ["way"] fBlind) (cs : Cal P w K mg base k "sighted" ["way"] fSighted) (ce : Cal P w K mg base k "equals" ["way"] fEquals) (cbk : Cal P w K mg base k "_law_back" ["_law_order", "_law_lots"] fBack) :
    Cal P w K mg base (k + 1) "_law_seen_right" ["_law_way_here", "_law_order"] fSeen := by
  refine cal_of F fSeen scSeen (by decide) (fun ds r h => ?_) fun f cdv A outer s H E ds r hr hu h => ?_
  · obtain ⟨_, _, rfl, _⟩ := h
    rfl
  obtain ⟨w, o, rfl, S, rfl⟩ := h
  have hh := S.ok.1
  have ht2 : (exch w o).tabs.length ≤ 100 := by rw [S.tt]; exact S.few
  have two := S.two
  have two2 : 2 ≤ (exch w o).tabs.length := by rw [S.tt]; exact two
  refine sj_is (s1_set (i := 2) (d := wayD (exch w o)) scSeen.nd rfl (pv_c cx hr (pav_cons (pvn 0 rfl) (pav_cons (pvn 1 rfl) pav_nil)) ⟨w, true, o, rfl, S.ok, rfl⟩) (fun _ z => nomatch z)) ?_
  let ρ0 : Rho := [some (wayD w), some (ordD o), some (wayD (exch w o)), none, none, none, none, none]
  refine sj_cons (s1_forX (i := 3) (xs := groups w.h) (en := gD) (fun _ => True) (fun _ => ρ0) (fun _ => none) rfl scSeen.nd rfl (piv_tup (pv_c cg hr (pav_cons (pv_ixT (d := nD w.h) (pvn 0 rfl) (pv_int (i := 0)) (j := 0) rfl rfl) pav_nil) ⟨w.h, rfl, hh, rfl⟩)) PassesOwn.never
    (RLe.refl _) (fun _ => rfl) rfl trivial (fun _ _ _ z => nomatch z) fun i g hg _ => ?_) fun ρ' ω' q => ?_
  · have hm : g ∈ groups w.h := List.mem_of_getElem? hg
    obtain ⟨hg5, hgo⟩ := S.inn g hm
    have hl5 : (led o g).length ≤ 5 := by
      unfold led sortBy
      rw [(List.mergeSort_perm _ _).length_eq, List.length_map]
      exact hg5
    refine sj_is (s1_set (i := 4) (d := gD (led o g)) scSeen.nd rfl (pv_c cl hr (pav_cons (pvn 1 rfl) (pav_cons (pvn 3 rfl) pav_nil)) ⟨true, o, g, rfl, hgo, rfl⟩) (fun _ z => nomatch z)) ?_
    let ρ1 : Rho := [some (wayD w), some (ordD o), some (wayD (exch w o)), some (gD g), some (gD (led o g)), none, none, none]
    refine sj_is (s1_if (N := Is ρ1 none) (b := false || false) (pwv_or (ptv_ne hr.units (pv_c ct hr (pav_cons (pvn 2 rfl) (pav_cons (pvn 3 rfl) pav_nil)) ⟨exch w o, g, rfl, ht2, rfl⟩) (pv_c ct hr (pav_cons (pvn 0 rfl) (pav_cons (pvn 4 rfl) pav_nil)) ⟨w, led o g, rfl, S.few, rfl⟩) (nice_lotsD _).ok (nice_lotsD _).ok (by rw [eqv_lotsD, S.told g hm, decide_eq_true rfl]; rfl))
      (pwv_or1 (ptv_ne hr.units (pv_c csh hr (pav_cons (pvn 2 rfl) (pav_cons (pvn 3 rfl) pav_nil)) ⟨exch w o, g, rfl, ht2, rfl⟩) (pv_c csh hr (pav_cons (pvn 0 rfl) (pav_cons (pvn 4 rfl) pav_nil)) ⟨w, led o g, rfl, S.few, rfl⟩) (nice_lotsD _).ok (nice_lotsD _).ok (by rw [eqv_lotsD, S.shown g hm, decide_eq_true rfl]; rfl)))).ptv (fun z => nomatch z) (fun _ => sj_nil ⟨rfl, rfl⟩)) ?_
    refine sj_cons (s1_forX (i := 5) (xs := List.range w.tabs.length) (en := nD) (fun _ => True) (fun _ => ρ1) (fun _ => none) rfl scSeen.nd rfl (upto_nD w.tabs.length ▸ piv_range (n := w.tabs.length) (PV.cast (pv_lenT (k := false) (ds := w.tabs.map tabD) (pv_ixT (pvn 0 rfl) (pv_int (i := 2)) (j := 2) rfl rfl) B.le) (by rw [List.length_map])) (by have := S.few; omega) rfl B.ra) PassesOwn.never
      (RLe.refl _) (fun _ => rfl) rfl trivial (fun _ _ _ z => nomatch z) fun j t htj _ => ?_) fun ρ2 ω2 q => ?_
    · have hj : t < w.tabs.length := List.mem_range.mp (List.mem_of_getElem? htj)
      refine sj_one (s1_if (b := false) (ptv_ne hr.units (pv_c cli hr (pav_cons (pvn 2 rfl) (pav_cons (pvn 5 rfl) (pav_cons (pvn 3 rfl) pav_nil))) ⟨exch w o, t, g, rfl, by rw [S.tt]; exact hj, rfl⟩) (pv_c cli hr (pav_cons (pvn 0 rfl) (pav_cons (pvn 5 rfl) (pav_cons (pvn 4 rfl) pav_nil))) ⟨w, t, led o g, rfl, hj, rfl⟩) (nice_nD _).ok (nice_nD _).ok (by rw [eqv_nD, S.light g hm t hj, decide_eq_true rfl]; rfl)) (fun z => nomatch z) (fun _ => sj_nil ?_))
      exact ⟨trivial, rl_same (rl_same (rl_same (rl_same (rl_same (rl_none (rl_same (rl_same rl_nil))))))), rfl, rfl⟩
    · obtain ⟨_, rfl, rfl⟩ := q
      have hp := S.part g hm
      refine sj_is (s1_par (i := 6) (j := 7) (da := optD (unlikePart (exch w o) 0 1 g)) (db := optD (unlikePart w 0 1 (led o g))) rfl scSeen.nd rfl rfl (by decide) (pv_c cu hr (pav_cons (pvn 2 rfl) (pav_cons pv_int (pav_cons pv_int (pav_cons (pvn 3 rfl) pav_nil)))) ⟨exch w o, 0, 1, g, rfl, by omega, by omega, hg5, rfl⟩) (pv_c cu hr (pav_cons (pvn 0 rfl) (pav_cons pv_int (pav_cons pv_int (pav_cons (pvn 4 rfl) pav_nil)))) ⟨w, 0, 1, led o g, rfl, by omega, by omega, hl5, rfl⟩) (fun _ z => nomatch z) (fun _ z => nomatch z)) ?_
      generalize unlikePart (exch w o) 0 1 g = p1 at hp ⊢
      generalize unlikePart w 0 1 (led o g) = p2 at hp ⊢
      have fin : ∀ (N' : Rho → Own → Prop), N' = (fun ρ' ω' => True ∧ RLe ρ0 ρ' ∧ ρ'.length = 8 ∧ ω' = none) → N' ((ρ1.set 6 (some (optD p1))).set 7 (some (optD p2))) none := fun N' e => by
        subst e
        exact ⟨trivial, rl_same (rl_same (rl_same (rl_none (rl_none (rl_none (rl_none (rl_none rl_nil))))))), rfl, rfl⟩
      cases p1 with
      | none =>
        cases p2 with
        | some b => cases hp
        | none =>
          refine sj_one (s1_if (b := false || false) (pwv_or (ptv_ne hr.units (pv_isN (da := .none) (pvn 6 rfl)) (pv_isN (da := .none) (pvn 7 rfl)) (nice_bool _).ok (nice_bool _).ok (by decide +kernel)) (pwv_or1 (pwv_andG (c := false) (c2 := false) (ptv_notN (da := .none) (pvn 6 rfl)) (fun _ => ⟨_, pw_and1 (pt_w _)⟩) (fun z => nomatch z)).ptv)).ptv (fun z => nomatch z) (fun _ => sj_nil (fin _ rfl)))
      | some a =>
        cases p2 with
        | none => cases hp
        | some b =>
          have hp : some a.length = some b.length := hp
          injection hp with hp
          refine sj_one (s1_if (b := false || (true && false)) (pwv_or (ptv_ne hr.units (pv_isN (da := gD a) (pvn 6 rfl)) (pv_isN (da := gD b) (pvn 7 rfl)) (nice_bool _).ok (nice_bool _).ok (by show (!(er (Da.bool false)).eqv (er (Da.bool false))) = false; decide +kernel)) (pwv_or1 (pwv_and (c := true) (c2 := false) (ptv_notN (da := gD a) (pvn 6 rfl)) (pwv_and1 (ptv_ne hr.units (pv_lenT (k := false) (ds := a.map nD) (pvn 6 rfl) B.le) (pv_lenT (k := false) (ds := b.map nD) (pvn 7 rfl) B.le) (nice_int _).ok (nice_int _).ok (by
            rw [List.length_map, List.length_map, hp]
            show (!PyData.eqv (er (nD b.length)) (er (nD b.length))) = false
            rw [eqv_nD, decide_eq_true rfl]
            rfl)))).ptv)).ptv (fun z => nomatch z) (fun _ => sj_nil (fin _ rfl)))
  · obtain ⟨_, rfl, rfl⟩ := q
    refine sj_is (s1_if (N := Is ρ0 none) (b := false || false) (pwv_or (ptv_ne hr.units (pv_c cb hr (pav_cons (pvn 2 rfl) pav_nil) ⟨exch w o, rfl, S.ok2.1, ht2, rfl⟩) (pv_c cbk hr (pav_cons (pvn 1 rfl) (pav_cons (pv_c cb hr (pav_cons (pvn 0 rfl) pav_nil) ⟨w, rfl, hh, S.few, rfl⟩) pav_nil)) ⟨o, blind w, rfl, S.binn, rfl⟩) (nice_lotsD _).ok (nice_lotsD _).ok (by rw [eqv_lotsD, S.blind, decide_eq_true rfl]; rfl))
      (pwv_or1 (ptv_ne hr.units (pv_c cs hr (pav_cons (pvn 2 rfl) pav_nil) ⟨exch w o, rfl, S.ok2.1, ht2, rfl⟩) (pv_c cbk hr (pav_cons (pvn 1 rfl) (pav_cons (pv_c cs hr (pav_cons (pvn 0 rfl) pav_nil) ⟨w, rfl, hh, S.few, rfl⟩) pav_nil)) ⟨o, sighted w, rfl, S.sinn, rfl⟩) (nice_lotsD _).ok (nice_lotsD _).ok (by rw [eqv_lotsD, S.sighted, decide_eq_true rfl]; rfl)))).ptv (fun z => nomatch z) (fun _ => sj_nil ⟨rfl, rfl⟩)) ?_
    exact sj_end (s1_ret (pv_eq hr.units (pv_c ce hr (pav_cons (pvn 2 rfl) pav_nil) ⟨exch w o, rfl, S.ok2, S.e2, rfl⟩) (pv_c cbk hr (pav_cons (pvn 1 rfl) (pav_cons (pv_c ce hr (pav_cons (pvn 0 rfl) pav_nil) ⟨w, rfl, S.ok, S.e1, rfl⟩) pav_nil)) ⟨o, equals w, rfl, S.einn, rfl⟩) (nice_lotsD _).ok (nice_lotsD _).ok (by rw [eqv_lotsD, S.equals, decide_eq_true rfl])) rfl)
abbrev nEqR : List Str := ["_law_way_here", "_law_lot", "_law_one", "_law_other", "_law_group", "_law_first", "_law_second"]
theorem scEqR : FnScope nEqR ["_law_way_here"] (defScope sEqR) := ⟨rfl, rfl, rfl, by decide +kernel, rfl, by decide +kernel, by decide +kernel⟩
theorem sort_snoc_len (g : Grp) (a : Nat) : (sortBy ltN (g ++ [a])).length = g.length + 1 := by
  unfold sortBy
  rw [(List.mergeSort_perm _ _).length_eq, List.length_append]
  rfl
theorem c_eqR (F : Fn K mg "_law_equals_right" sEqR ["_law_way_here"]) (B : Bi mg) (ce : Cal P w K mg base k "equals" ["way"] fEquals) (cg : Cal P w K mg base k "groups" ["holders"] fGroups) (ct : Cal P w K mg base k "told" ["way", "group"] fTold) (cli : Cal P w K mg base k "light" ["way", "tone", "group"] fLight) :
    Cal P w K mg base (k + 1) "_law_equals_right" ["_law_way_here"] fEqR := by
  refine cal_of F fEqR scEqR (by decide) (fun ds r h => ?_) fun f cdv A outer s H E ds r hr hu h => ?_
  · obtain ⟨_, rfl, _⟩ := h
    rfl
  obtain ⟨w, rfl, S, rfl⟩ := h
  have hh := S.ok.1
  have two := S.two
  let ρ0 : Rho := [some (wayD w), none, none, none, none, none, none]
  refine sj_cons (s1_forX (i := 1) (xs := equals w) (en := gD) (fun _ => True) (fun _ => ρ0) (fun _ => none) rfl scEqR.nd rfl (piv_tup (pv_c ce hr (pav_cons (pvn 0 rfl) pav_nil) ⟨w, rfl, S.ok, S.e1, rfl⟩)) PassesOwn.never
    (RLe.refl _) (fun _ => rfl) rfl trivial (fun _ _ _ z => nomatch z) fun i lot hlot _ => ?_) fun ρ' ω' q => ?_
  · have hm : lot ∈ equals w := List.mem_of_getElem? hlot
    let ρ1 : Rho := [some (wayD w), some (gD lot), none, none, none, none, none]
    refine sj_cons (s1_forX2 (i := 2) (j := 3) (xs := lot.zip (lot.drop 1)) (en := fun q => nD q.1) (en' := fun q => nD q.2) (fun _ => True) (fun _ => ρ1) (fun _ => none) rfl scEqR.nd rfl rfl
      (pairs_zip nD nD lot (lot.drop 1) ▸ piv_zipT (k := false) (k' := false) (pvn 1 rfl) (PV.cast (pv_slT1 (ds := lot.map nD) (pvn 1 rfl)) (by rw [List.map_drop])) rfl B.zi) PassesOwn.never (RLe.refl _) (fun _ => rfl) rfl trivial (fun _ _ _ z => nomatch z) (fun j q hq _ => ?_)
      (pg_pair rfl scEqR.nd rfl rfl (.inl rfl) (.inl rfl))) fun ρ' ω' q => ?_
    · have hqm := List.mem_of_getElem? hq
      let ρ2 : Rho := [some (wayD w), some (gD lot), some (nD q.1), some (nD q.2), none, none, none]
      refine sj_cons (s1_forX (i := 4) (xs := groups w.h) (en := gD) (fun _ => True) (fun _ => ρ2) (fun _ => none) rfl scEqR.nd rfl (piv_tup (pv_c cg hr (pav_cons (pv_ixT (d := nD w.h) (pvn 0 rfl) (pv_int (i := 0)) (j := 0) rfl rfl) pav_nil) ⟨w.h, rfl, hh, rfl⟩)) PassesOwn.never
        (RLe.refl _) (fun _ => rfl) rfl trivial (fun _ _ _ z => nomatch z) fun i g hg _ => ?_) fun ρ' ω' q => ?_
      · have hmg : g ∈ groups w.h := List.mem_of_getElem? hg
        have h5 := S.inn g hmg
        have fin : ∀ (a b : Option Da) (N' : Rho → Own → Prop), N' = (fun ρ' ω' => True ∧ RLe ρ2 ρ' ∧ ρ'.length = 7 ∧ ω' = none) → N' [some (wayD w), some (gD lot), some (nD q.1), some (nD q.2), some (gD g), a, b] none := fun a b N' e => by
          subst e
          exact ⟨trivial, rl_same (rl_same (rl_same (rl_same (rl_none (rl_none (rl_none rl_nil)))))), rfl, rfl⟩
        refine sj_one (s1_if (pwv_and (ptv_notIn hr.units (pvn 2 rfl) (pvn 4 rfl) (nice_nD _).ok (plain_map nice_nD g) rfl (by rw [any_eq eqv_nD g q.1])) (pwv_and1 (ptv_notIn hr.units (pvn 3 rfl) (pvn 4 rfl) (nice_nD _).ok (plain_map nice_nD g) rfl (by rw [any_eq eqv_nD g q.2])))).ptv (fun hb => ?_) (fun _ => sj_nil (fin _ _ _ rfl)))
        have hb1 : q.1 ∉ g := by
          rw [Bool.and_eq_true] at hb
          simpa using hb.1
        have hb2 : q.2 ∉ g := by
          rw [Bool.and_eq_true] at hb
          simpa using hb.2
        obtain ⟨s1, s2⟩ := S.same lot hm q hqm g hmg hb1 hb2
        have mk : ∀ (a : Nat), msort (g.map nD ++ [nD a]) = (sortBy ltN (g ++ [a])).map nD := fun a => by
          have : g.map nD ++ [nD a] = (g ++ [a]).map nD := by rw [List.map_append]; rfl
          rw [this, msort_map lt_nD]
        have so : ∀ (a : Nat), SortOk (g.map nD ++ [nD a]) := fun a => by
          have : g.map nD ++ [nD a] = (g ++ [a]).map nD := by rw [List.map_append]; rfl
          rw [this]
          exact sortOk_nD _
        refine sj_is (s1_par (i := 5) (j := 6) (da := gD (sortBy ltN (g ++ [q.1]))) (db := gD (sortBy ltN (g ++ [q.2]))) rfl scEqR.nd rfl rfl (by decide)
          (PV.cast (pv_tupleL (pv_sortedT (k := false) hu (so q.1) (pv_catT (xs := g.map nD) (ys := [nD q.1]) (by rw [List.length_map]; show g.length + 1 ≤ 100000; omega) (pvn 4 rfl) (pv_tup (pav_cons (pvn 2 rfl) pav_nil))) B.so) B.tu) (by rw [mk]; rfl))
          (PV.cast (pv_tupleL (pv_sortedT (k := false) hu (so q.2) (pv_catT (xs := g.map nD) (ys := [nD q.2]) (by rw [List.length_map]; show g.length + 1 ≤ 100000; omega) (pvn 4 rfl) (pv_tup (pav_cons (pvn 3 rfl) pav_nil))) B.so) B.tu) (by rw [mk]; rfl)) (fun _ z => nomatch z) (fun _ z => nomatch z)) ?_
        refine sj_one (s1_if (b := false || false) (pwv_or (ptv_ne hr.units (pv_c ct hr (pav_cons (pvn 0 rfl) (pav_cons (pvn 5 rfl) pav_nil)) ⟨w, _, rfl, S.few, rfl⟩) (pv_c ct hr (pav_cons (pvn 0 rfl) (pav_cons (pvn 6 rfl) pav_nil)) ⟨w, _, rfl, S.few, rfl⟩) (nice_lotsD _).ok (nice_lotsD _).ok (by rw [eqv_lotsD, s1, decide_eq_true rfl]; rfl))
          (pwv_or1 (ptv_ne hr.units (pv_c cli hr (pav_cons (pvn 0 rfl) (pav_cons pv_int (pav_cons (pvn 5 rfl) pav_nil))) ⟨w, 0, _, rfl, by omega, rfl⟩) (pv_c cli hr (pav_cons (pvn 0 rfl) (pav_cons pv_int (pav_cons (pvn 6 rfl) pav_nil))) ⟨w, 0, _, rfl, by omega, rfl⟩) (nice_nD _).ok (nice_nD _).ok (by rw [eqv_nD, s2, decide_eq_true rfl]; rfl)))).ptv (fun z => nomatch z) (fun _ => sj_nil (fin _ _ _ rfl)))
      · obtain ⟨_, rfl, rfl⟩ := q
        refine sj_nil ⟨trivial, rl_same (rl_same (rl_none (rl_none (rl_none (rl_none (rl_none rl_nil)))))), rfl, rfl⟩
    · obtain ⟨_, rfl, rfl⟩ := q
      refine sj_nil ⟨trivial, rl_same (rl_none (rl_none (rl_none (rl_none (rl_none (rl_none rl_nil)))))), rfl, rfl⟩
  · obtain ⟨_, rfl, rfl⟩ := q
    exact sj_end (s1_ret pv_bl rfl)
end
end K42
/-! ## KBag -/
namespace K42
open PySem PySem.Spec L2
open PyProof.Rows hiding St
/-! ### the bag: a list of three whole numbers that is passed and changed -/
def Bg (H : Hp) (p : Addr) (c : Nat) : Prop := ∃ g m k : Int, H p = some (.lst [.int g, .int m, .int k]) ∧ 0 ≤ g ∧ 0 ≤ m ∧ m < 2147483648 ∧ 0 ≤ k ∧ k ≤ (c : Int)
theorem Bg.mono {H : Hp} {p : Addr} {c d : Nat} (h : Bg H p c) (l : c ≤ d) : Bg H p d := by
  obtain ⟨g, m, k, h1, h2, h3, h4, h5, h6⟩ := h
  exact ⟨g, m, k, h1, h2, h3, h4, h5, by omega⟩
theorem Bg.ne {H : Hp} {p : Addr} {c : Nat} (h : Bg H p c) : H p ≠ none := by
  obtain ⟨g, m, k, h1, _⟩ := h
  rw [h1]
  exact fun z => nomatch z
theorem Bg.same {H H' : Hp} {p : Addr} {c : Nat} (h : Bg H p c) (s : Same H H') : Bg H' p c := by
  obtain ⟨g, m, k, h1, h2⟩ := h
  exact ⟨g, m, k, s _ _ h1, h2⟩
/-- the heap grows, the bag at p may change -/
structure ExtB (p : Addr) (G H G' H' : Hp) : Prop where
  hh : ∀ a o, a ≠ p → H a = some o → H' a = some o
  gh : Same G' H'
  new : ∀ a, H a ≠ none → G' a = G a
theorem ExtB.of {p : Addr} {G H G' H' : Hp} (x : Ext G H G' H') : ExtB p G H G' H' := ⟨fun a o _ e => x.hh a o e, x.gh, x.new⟩
theorem ExtB.refl {p : Addr} {G H : Hp} (h : Same G H) : ExtB p G H G H := .of (.refl h)
theorem ExtB.gg {p : Addr} {G H G' H' : Hp} (x : ExtB p G H G' H') (h : Same G H) : Same G G' := fun a o e => by
  have q := h a o e
  rw [x.new a (by rw [q]; exact fun z => nomatch z)]
  exact e
theorem ExtB.old {p : Addr} {G H G' H' : Hp} (x : ExtB p G H G' H') {c : Nat} (b : Bg H' p c) {a : Addr} (h : H a ≠ none) : H' a ≠ none := by
  by_cases e : a = p
  · rw [e]; exact b.ne
  · cases q : H a with
    | none => exact absurd q h
    | some o => rw [x.hh a o e q]; exact fun z => nomatch z
theorem ExtB.trans {p : Addr} {G H G1 H1 G2 H2 : Hp} {c : Nat} (x : ExtB p G H G1 H1) (b : Bg H1 p c) (y : ExtB p G1 H1 G2 H2) : ExtB p G H G2 H2 :=
  ⟨fun a o n e => y.hh a o n (x.hh a o n e), y.gh, fun a h => by rw [y.new a (x.old b h), x.new a h]⟩
theorem ExtB.gp {p : Addr} {G H G' H' : Hp} {c : Nat} (x : ExtB p G H G' H') (b : Bg H p c) (h : G p = none) : G' p = none := by rw [x.new p b.ne]; exact h
abbrev cMax : Nat := 1000000
/-- e gives a datum of F, with at most n draws; the bag stands in the slot i -/
def PB (X : Cx) (i : Nat) (e : Expr) (ρ : Rho) (n : Nat) (F : Da → Prop) : Prop :=
  ∀ p c σ G H Q, σ[i]? = some (some (.ref p)) → Same G H → ρ.length ≤ σ.length → EOk G σ ρ → G p = none → Bg H p c → c + n ≤ cMax → (∀ v d G' H', F d → ExtB p G H G' H' → Bg H' p (c + n) → Dx G' v d → Q v H') → tW X e σ H Q
def PBA (X : Cx) (i : Nat) (es : List Expr) (ρ : Rho) (n : Nat) (F : List Da → Prop) : Prop :=
  ∀ p c σ G H Q, σ[i]? = some (some (.ref p)) → Same G H → ρ.length ≤ σ.length → EOk G σ ρ → G p = none → Bg H p c → c + n ≤ cMax → (∀ vs ds G' H', F ds → ExtB p G H G' H' → Bg H' p (c + n) → DxAll G' vs ds → Q vs H') → tWA X es σ H Q
section
variable {X : Cx} {i : Nat} {e e2 a b : Expr} {es : List Expr} {ρ : Rho} {n m : Nat} {F F2 : Da → Prop} {Fs : List Da → Prop} {d : Da} {ds : List Da} {p pos : Pos} {x : Str}
theorem pb_of (h : PV X e ρ d) : PB X i e ρ 0 (fun z => z = d) := fun p c σ G H Q hi sg hl he gp hb hc hq => h σ G H Q sg hl he fun v G' H' x dv => hq v d G' H' rfl (.of x) (hb.same x.hh) dv
theorem PB.imp (h : PB X i e ρ n F) (q : ∀ d, F d → F2 d) (l : n ≤ m) : PB X i e ρ m F2 := fun p c σ G H Q hi sg hl he gp hb hc hq => h p c σ G H Q hi sg hl he gp hb (by omega) fun v d G' H' f x b dv => hq v d G' H' (q d f) x (b.mono (by omega)) dv
theorem pba_nil : PBA X i [] ρ 0 (fun ds => ds = []) := fun p c σ G H Q hi sg hl he gp hb hc hq => pav_nil σ G H Q sg hl he fun vs G' H' x dv => hq vs [] G' H' rfl (.of x) (hb.same x.hh) dv
theorem PBA.imp {F2s : List Da → Prop} (h : PBA X i es ρ n Fs) (q : ∀ d, Fs d → F2s d) (l : n ≤ m) : PBA X i es ρ m F2s := fun p c σ G H Q hi sg hl he gp hb hc hq => h p c σ G H Q hi sg hl he gp hb (by omega) fun v d G' H' f x b dv => hq v d G' H' (q d f) x (b.mono (by omega)) dv
theorem pba_cons (h1 : PB X i e ρ n F) (h2 : PBA X i es ρ m Fs) (hs : starEach (e :: es) X.env = (false, eval e X.env) :: starEach es X.env := by rfl) : PBA X i (e :: es) ρ (n + m) (fun ds => ∃ d r, ds = d :: r ∧ F d ∧ Fs r) :=
  fun p c σ G H Q hi sg hl he gp hb hc hq pos pins s I => (pa_cons (pe_w e) (pa_w es) hs).run pos pins s σ H Q I (h1 p c σ G H _ hi sg hl he gp hb (by omega) fun v d G1 H1 f1 x1 b1 d1 => h2 p (c + n) σ G1 H1 _ hi x1.gh hl (he.mono (x1.gg sg)) (x1.gp hb gp) b1 (by omega) fun vs ds G2 H2 f2 x2 b2 d2 =>
    hq (v :: vs) (d :: ds) G2 H2 ⟨d, ds, rfl, f1, f2⟩ (x1.trans b1 x2) (b2.mono (by omega)) (.cons (Dx.mono (x2.gg x1.gh) _ d1) d2))
theorem pb_tup {x1} (h : PBA X i es ρ n Fs) (hz : ∀ ds, Fs ds → ds.length ≤ 1000) : PB X i (.Tuple es x1 pos) ρ n (fun d => ∃ ds, Fs ds ∧ d = .tuple false ds) :=
  fun p c σ G H Q hi sg hl he gp hb hc hq pins s I => (pe_tup (pa_w es)).run pins s σ H Q I (h p c σ G H _ hi sg hl he gp hb hc fun vs ds G1 H1 f x1 b1 d1 => ⟨by rw [d1.length, sizeLine_eq]; have := hz ds f; omega, fun q hq1 => by
    have sp : Same H1 (upd H1 q (.tup vs)) := same_upd hq1
    exact hq (.ref q) _ _ _ ⟨ds, f, rfl⟩ (x1.trans b1 (.of (Ext.add x1.gh hq1))) (b1.same sp) (.tup upd_same (DxAll.mono (same_upd (x1.gh.free hq1)) _ d1))⟩)
/-- a whole number and a draw -/
theorem pb_addI {j : Int} {P : Int → Prop} (ha : PV X a ρ (.int j)) (hb : PB X i b ρ n (fun d => ∃ k, d = .int k ∧ P k)) : PB X i (.BinOp a .Add b pos) ρ n (fun d => ∃ k, d = .int (j + k) ∧ P k) :=
  fun p c σ G H Q hi sg hl he gp hb0 hc hq pins s I => (pe_op op_add (pe_w a) (pe_w b)).run pins s σ H Q I (ha σ G H _ sg hl he fun v G1 H1 x1 d1 => hb p c σ G1 H1 _ hi x1.gh hl (he.mono (x1.gg sg)) ((ExtB.of (p := p) x1).gp hb0 gp) (hb0.same x1.hh) hc fun u d G2 H2 f x2 b2 d2 => by
    obtain ⟨k, rfl, hk⟩ := f
    cases d1
    cases d2
    exact ⟨j, k, rfl, rfl, hq _ _ G2 H2 ⟨k, rfl, hk⟩ ((ExtB.of x1).trans (hb0.same x1.hh) x2) b2 (.int _)⟩)
/-- an item that is drawn -/
theorem pb_ix {ds : List Da} {l : Bool} {k : Bool} (ha : PV X a ρ (if l then .list ds else .tuple k ds)) (hb : PB X i b ρ n (fun d => ∃ j : Nat, d = .int (j : Int) ∧ j < ds.length)) (hs : PlainIx b := by exact fun _ _ => rfl) : PB X i (.Subscript a b pos) ρ n (fun d => d ∈ ds) := by
  cases l with
  | true =>
    have ha : PV X a ρ (.list ds) := ha
    exact fun p c σ G H Q hi sg hl he gp hb0 hc hq pins s I => (pe_ix ix_list (pe_w a) (pe_w b) hs).run pins s σ H Q I (ha σ G H _ sg hl he fun v G1 H1 x1 d1 => hb p c σ G1 H1 _ hi x1.gh hl (he.mono (x1.gg sg)) ((ExtB.of (p := p) x1).gp hb0 gp) (hb0.same x1.hh) hc fun u d G2 H2 f x2 b2 d2 => by
      obtain ⟨j, rfl, hj⟩ := f
      cases d2
      cases Dx.mono (x2.gg x1.gh) _ d1 with
      | lst k1 k2 =>
        obtain ⟨w, hw, hd⟩ := k2.get (List.getElem?_eq_getElem hj)
        exact ⟨_, _, _, w, rfl, rfl, SqL.of (x2.gh _ _ k1), atI_nat hw, hq w _ G2 H2 (List.getElem_mem hj) ((ExtB.of x1).trans (hb0.same x1.hh) x2) b2 hd⟩)
  | false =>
    have ha : PV X a ρ (.tuple k ds) := ha
    exact fun p c σ G H Q hi sg hl he gp hb0 hc hq pins s I => (pe_ix ix_tup (pe_w a) (pe_w b) hs).run pins s σ H Q I (ha σ G H _ sg hl he fun v G1 H1 x1 d1 => hb p c σ G1 H1 _ hi x1.gh hl (he.mono (x1.gg sg)) ((ExtB.of (p := p) x1).gp hb0 gp) (hb0.same x1.hh) hc fun u d G2 H2 f x2 b2 d2 => by
      obtain ⟨j, rfl, hj⟩ := f
      cases d2
      cases Dx.mono (x2.gg x1.gh) _ d1 with
      | tup k1 k2 =>
        obtain ⟨w, hw, hd⟩ := k2.get (List.getElem?_eq_getElem hj)
        exact ⟨_, _, _, w, rfl, rfl, (k1.mono x2.gh).sqt, atI_nat hw, hq w _ G2 H2 (List.getElem_mem hj) ((ExtB.of x1).trans (hb0.same x1.hh) x2) b2 hd⟩)
/-- a call of what is built in, of a drawn datum -/
theorem pb_callB {id : String} {r : List V → Hp → VK → Prop} {f : Da → Da} (hc : CallR X (.builtin id) r) (hg : Gl X x) (hm : X.mg x = none) (hv : bootBuiltins x = some (.builtin id)) (ha : PB X i e ρ n F)
    (hr : ∀ d, F d → ∀ v G H Q, Same G H → Hz H → Dx G v d → (∀ v G' H', Ext G H G' H' → Dx G' v (f d) → Q v H') → r [v] H Q) (hn : x ≠ "__name__" := by decide) (hdb : (x == ("__debug__" : Str)) = false := by decide)
    (h1 : starEach [e] X.env = (false, eval e X.env) :: starEach [] X.env := by rfl) (h2 : (backTo pos (starEach [] X.env)).any (·.1) = false := by rfl) : PB X i (.Call (.Name x p) [e] [] pos) ρ n (fun z => ∃ d, F d ∧ z = f d) :=
  fun q c σ G H Q hi sg hl he gp hb0 hcc hq pins s I => (pe_callB hc hg hm hv (pa_z [e]) hn hdb h1 h2).run pins s σ H Q I ((pba_cons ha pba_nil h1) q c σ G H _ hi sg hl he gp hb0 (by omega) fun vs ds G1 H1 f1 x1 b1 d1 z => by
    obtain ⟨d, r', rfl, fd, rfl⟩ := f1
    cases d1 with
    | cons k1 k2 =>
      cases k2
      exact hr d fd _ G1 H1 _ x1.gh z k1 fun v G' H' x2 d2 => hq v _ G' H' ⟨d, fd, rfl⟩ (x1.trans b1 (.of x2)) ((b1.same x2.hh).mono (by omega)) d2)
theorem pb_callTy {T : String} {r : List V → Hp → VK → Prop} {f : Da → Da} (hc : CallR X (.type T) r) (hg : Gl X x) (hm : X.mg x = none) (hv : bootBuiltins x = some (.type T)) (ha : PB X i e ρ n F)
    (hr : ∀ d, F d → ∀ v G H Q, Same G H → Hz H → Dx G v d → (∀ v G' H', Ext G H G' H' → Dx G' v (f d) → Q v H') → r [v] H Q) (hn : x ≠ "__name__" := by decide) (hdb : (x == ("__debug__" : Str)) = false := by decide)
    (h1 : starEach [e] X.env = (false, eval e X.env) :: starEach [] X.env := by rfl) (h2 : (backTo pos (starEach [] X.env)).any (·.1) = false := by rfl) : PB X i (.Call (.Name x p) [e] [] pos) ρ n (fun z => ∃ d, F d ∧ z = f d) :=
  fun q c σ G H Q hi sg hl he gp hb0 hcc hq pins s I => (pe_callTy hc hg hm hv (pa_z [e]) hn hdb h1 h2).run pins s σ H Q I ((pba_cons ha pba_nil h1) q c σ G H _ hi sg hl he gp hb0 (by omega) fun vs ds G1 H1 f1 x1 b1 d1 z => by
    obtain ⟨d, r', rfl, fd, rfl⟩ := f1
    cases d1 with
    | cons k1 k2 =>
      cases k2
      exact hr d fd _ G1 H1 _ x1.gh z k1 fun v G' H' x2 d2 => hq v _ G' H' ⟨d, fd, rfl⟩ (x1.trans b1 (.of x2)) ((b1.same x2.hh).mono (by omega)) d2)
/-- the items of a list of data -/
def itemsD : Da → List Da
  | .list ds => ds
  | .tuple _ ds => ds
  | _ => []
theorem pb_sorted (hu : X.A.units + 70 < cLine) (ok : ∀ d, F d → ∃ ds, d = .list ds ∧ SortOk ds) (ha : PB X i e ρ n F) (hm : X.mg "sorted" = none) (hg : Gl X "sorted" := by rfl) (h1 : starEach [e] X.env = (false, eval e X.env) :: starEach [] X.env := by rfl) (h2 : (backTo pos (starEach [] X.env)).any (·.1) = false := by rfl) : PB X i (.Call (.Name "sorted" p) [e] [] pos) ρ n (fun z => ∃ d, F d ∧ z = .list (msort (itemsD d))) :=
  pb_callB (f := fun d => .list (msort (itemsD d))) (cr_sortD hu) hg hm boot_sorted' ha (fun d fd v G H Q sg z hd hq => by
    obtain ⟨ds, rfl, so⟩ := ok d fd
    cases hd with
    | lst m1 m2 => exact ⟨G, _, ds, sg, rfl, .inl (.lst m1 m2), so, fun q out hp ho => hq _ _ _ (Ext.add sg hp) (.lst upd_same (DxAll.mono (same_upd (sg.free hp)) _ ho))⟩) (by decide) (by decide) h1 h2
theorem pb_tupleL (ok : ∀ d, F d → ∃ ds, d = .list ds) (ha : PB X i e ρ n F) (hm : X.mg "tuple" = none) (hg : Gl X "tuple" := by rfl) (h1 : starEach [e] X.env = (false, eval e X.env) :: starEach [] X.env := by rfl) (h2 : (backTo pos (starEach [] X.env)).any (·.1) = false := by rfl) : PB X i (.Call (.Name "tuple" p) [e] [] pos) ρ n (fun z => ∃ d, F d ∧ z = .tuple false (itemsD d)) :=
  pb_callTy (f := fun d => .tuple false (itemsD d)) call_tuple_of hg hm boot_tuple' ha (fun d fd v G H Q sg z hd hq => by
    obtain ⟨ds, rfl⟩ := ok d fd
    cases hd with
    | lst m1 m2 => exact ⟨_, _, rfl, .inl ⟨SqL.of (sg _ _ m1), fun l hl => hq _ _ _ (Ext.add sg hl) (.tup upd_same (DxAll.mono (same_upd (sg.free hl)) _ m2))⟩⟩) (by decide) (by decide) h1 h2
theorem pb_tupleF (ok : ∀ d, F d → ∃ ds, d = .list ds) (ha : PB X i e ρ n F) (hm : X.mg "tuple" = none) (hg : Gl X "tuple" := by rfl) (h1 : starEach [e] X.env = (false, eval e X.env) :: starEach [] X.env := by rfl) (h2 : (backTo pos (starEach [] X.env)).any (·.1) = false := by rfl) : PB X i (.Call (.Name "tuple" p) [e] [] pos) ρ n (fun z => ∃ d, F d ∧ z = .tuple true (itemsD d)) :=
  pb_callTy (f := fun d => .tuple true (itemsD d)) call_tupleF hg hm boot_tuple' ha (fun d fd v G H Q sg z hd hq => by
    obtain ⟨ds, rfl⟩ := ok d fd
    cases hd with
    | lst m1 m2 => exact ⟨_, _, rfl, SqL.of (sg _ _ m1), fun l o hl oc od => hq _ _ _ (Ext.add sg hl) (.tup ⟨o, upd_same, oc, od⟩ (DxAll.mono (same_upd (sg.free hl)) _ m2))⟩) (by decide) (by decide) h1 h2
/-! defs that draw -/
def spB (Pre : List Da → Prop) (n : List Da → Nat) (F : List Da → Da → Prop) : Sp := fun vs H Q _ => ∃ p G ds c us, vs = .ref p :: us ∧ Same G H ∧ G p = none ∧ Bg H p c ∧ c + n ds ≤ cMax ∧ DxAll G us ds ∧ Pre ds ∧
  ∀ v d G' H', F ds d → ExtB p G H G' H' → Bg H' p (c + n ds) → Dx G' v d → Q v H'
def CalB (P : Program) (w : World) (K : PySem.W.Frag) (mg : Str → Option Value) (base : Heap) (k : Nat) (x : Str) (ps : List Str) (Pre : List Da → Prop) (n : List Da → Nat) (F : List Da → Da → Prop) : Prop :=
  ∃ f fd, FnOk P w K mg base CX0 k f fd ps (spB Pre n F) ∧ mg x = some (.ref f) ∧ PySem.W.keepIn K (.ref f) = true ∧ Binds K fd ps []
theorem CalB.mono {P : Program} {w : World} {K : PySem.W.Frag} {mg : Str → Option Value} {base : Heap} {j k : Nat} {x : Str} {ps : List Str} {Pre : List Da → Prop} {n : List Da → Nat} {F : List Da → Da → Prop} (G : CalB P w K mg base j x ps Pre n F) (h : j ≤ k) : CalB P w K mg base k x ps Pre n F := by
  obtain ⟨f, fd, h1, h2⟩ := G
  exact ⟨f, fd, h1.mono h, h2⟩
theorem pb_c {k N : Nat} {ps : List Str} {y : Str} {py : Pos} {Pre : List Da → Prop} {nf : List Da → Nat} {F : List Da → Da → Prop} (C : CalB X.prog X.w X.K X.mg X.base k x ps Pre nf F) (hr : Room k X.A) (hN : X.N[i]? = some y) (ha : PBA X i es ρ m Fs) (hA : ∀ ds, Fs ds → Pre ds ∧ nf ds ≤ N)
    (hv : Vis X.env.scope y := by first | exact Or.inl rfl | exact Or.inr (Or.inl rfl) | exact Or.inr (Or.inr rfl)) (hd1 : (y == ("__debug__" : Str)) = false := by decide) (hd2 : (y == ("__classdict__" : Str)) = false := by decide)
    (hg : Gl X x := by rfl) (hdb : (x == ("__debug__" : Str)) = false := by decide) (h0 : starEach (.Name y py :: es) X.env = (false, eval (.Name y py) X.env) :: starEach es X.env := by rfl) (h2 : (backTo pos (starEach es X.env)).any (·.1) = false := by rfl) :
    PB X i (.Call (.Name x p) (.Name y py :: es) [] pos) ρ (m + N) (fun d => ∃ ds, Fs ds ∧ F ds d) := by
  obtain ⟨f, fd, g1, g2, g3, g4⟩ := C
  exact fun q c σ G H Q hi sg hl he gp hb0 hcc hq pins s I => (pe_call g1 hr hg g2 g3 g4 .nil pass0 (pa_cons (pe_var hN hv hd1 hd2) (pa_w es) h0) hdb h0 h2).run pins s σ H Q I ⟨.ref q, hi, ha q c σ G H _ hi sg hl he gp hb0 (by omega) fun vs ds G1 H1 f1 x1 b1 d1 => by
    show spB Pre nf F (.ref q :: vs ++ []) H1 Q E0
    rw [List.append_nil]
    obtain ⟨pr, hn⟩ := hA ds f1
    exact ⟨q, G1, ds, c + m, vs, rfl, x1.gh, x1.gp hb0 gp, b1, by omega, d1, pr, fun v d G' H' fd x2 b2 d2 => hq v d G' H' ⟨ds, f1, fd⟩ (x1.trans b1 x2) (b2.mono (by omega)) d2⟩⟩
/-! statements of a def that draws -/
def JB (X : Cx) (i : Nat) (sts : List Stmt) (ρ : Rho) (n : Nat) (R : Da → Prop) : Prop :=
  ∀ p c G H σ (D : Ends), σ[i]? = some (some (.ref p)) → Same G H → ρ.length ≤ σ.length → EOk G σ ρ → G p = none → Bg H p c → c + n ≤ cMax → (∀ v d G' H', R d → ExtB p G H G' H' → Bg H' p (c + n) → Dx G' v d → D.rt v H') → tWSs X sts D σ H
theorem jb_set {j : Nat} {x : Str} {p2 : Pos} {sts : List Stmt} {R : Da → Prop} (hn : X.N.Nodup) (hj : X.N[j]? = some x) (hij : j ≠ i) (h : PB X i e ρ n F) (h2 : ∀ d, F d → JB X i sts (ρ.set j (some d)) m R) (hx : Loc X.env.scope x := by first | exact Or.inl rfl | exact Or.inr rfl) (hs : swapsWith e (some (.Name x p2)) pos.line X.env = pure false := by rfl)
    (hf : X.fn x = true ∨ X.env.scope.names.lookup x = some .local := by first | exact .inl rfl | exact .inr rfl | assumption) : JB X i (.Assign [.Name x p2] e pos :: sts) ρ (n + m) R :=
  fun p c G H σ D hi sg hl he gp hb hc hr pins s I => (pss_cons (ps_set hn hj hx (pe_w e) hs hf) (pss_w sts)).run pins s σ H D I (h p c σ G H _ hi sg hl he gp hb (by omega) fun v d G1 H1 f x1 b1 d1 => by
    refine h2 d f p (c + n) G1 H1 _ _ (by rw [List.getElem?_set_ne hij]; exact hi) x1.gh (by rw [List.length_set, List.length_set]; exact hl) ((he.mono (x1.gg sg)).set hl d1) (x1.gp hb gp) b1 (by omega) fun w d' G2 H2 f2 x2 b2 d2 => hr w d' G2 H2 f2 (x1.trans b1 x2) (b2.mono (by omega)) d2)
theorem jb_ret {sts : List Stmt} {R : Da → Prop} (h : PB X i e ρ n F) (q : ∀ d, F d → R d) : JB X i (.Return (some e) pos :: sts) ρ n R :=
  fun p c G H σ D hi sg hl he gp hb hc hr pins s I => (pss_cons (ps_ret (pe_w e)) (pss_w sts)).run pins s σ H D I (h p c σ G H _ hi sg hl he gp hb hc fun v d G1 H1 f x1 b1 d1 => hr v d G1 H1 (q d f) x1 b1 d1)
end
section
variable {P : Program} {w : World} {K : PySem.W.Frag} {mg : Str → Option Value} {base : Heap}
theorem calB_of {x : Str} {st : Stmt} {N ps : List Str} {k : Nat} (F : Fn K mg x st ps) (Pre : List Da → Prop) (n : List Da → Nat) (Fr : List Da → Da → Prop) (S : FnScope N ps (defScope st)) (hN : ps.length ≤ N.length) (hl : ∀ ds, Pre ds → ds.length + 1 = ps.length)
    (body : ∀ (f : Addr) (cdv : Value) (A : Around) (outer : List Env) (s : Shared) (H : Hp) (E : XK) (ds : List Da), Room k (A.deeper (envOfC x (defScope st) s.heap.objs.size f cdv)) → (A.deeper (envOfC x (defScope st) s.heap.objs.size f cdv)).units + 70 < cLine → Pre ds →
      JB (cxOf CX0 P w K mg base N x (defScope st) f cdv A outer s H E).nox 0 (defBody st) (none :: ds.map some ++ List.replicate (N.length - (ds.length + 1)) none) (n ds) (fun d => Fr ds d)) :
    CalB P w K mg base (k + 1) x ps Pre n Fr := by
  obtain ⟨f, fd, h1, h2, h3, h4⟩ := F
  refine ⟨f, fd, h1.ok S (fun vs H Q E h => ?_) (fun cdv A outer s H vs Q E hr h => ?_), h2, h3, h4⟩
  · obtain ⟨p, G, ds, c, us, rfl, sg, gp, hb, hc, hd, hp, _⟩ := h
    rw [List.length_cons, hd.length]
    exact hl ds hp
  · obtain ⟨p, G, ds, c, us, rfl, sg, gp, hb, hc, hd, hp, q⟩ := h
    have e1 := hl ds hp
    have e2 := hd.length
    refine ⟨_, pss_w _, body f cdv A outer s H E ds hr (Room.u70 hr) hp p c G H (L2.start N (.ref p :: us)) _ ?_ sg ?_ (fun j d hj => ?_) gp hb hc fun v d G' H' f x b dx => q v d G' H' f x b dx⟩
    · rfl
    · unfold L2.start
      simp only [List.length_append, List.length_cons, List.length_map, List.length_replicate]
      omega
    · unfold L2.start
      cases j with
      | zero => cases hj
      | succ j =>
        have hj : (ds.map some ++ List.replicate (N.length - (ds.length + 1)) none)[j]? = some (some d) := hj
        by_cases hlt : j < ds.length
        · rw [List.getElem?_append_left (by rw [List.length_map]; exact hlt), List.getElem?_map] at hj
          have hdj : ds[j]? = some d := by
            cases q : ds[j]? with
            | none => rw [q] at hj; cases hj
            | some d' =>
              rw [q] at hj
              have : some (some d') = some (some d) := hj
              cases this
              rfl
          obtain ⟨v, hv, hx⟩ := hd.get hdj
          refine ⟨v, ?_, hx⟩
          show (us.map some ++ _)[j]? = _
          rw [List.getElem?_append_left (by rw [List.length_map]; omega), List.getElem?_map, hv]
          rfl
        · rw [List.getElem?_append_right (by rw [List.length_map]; omega), List.getElem?_replicate] at hj
          split at hj <;> cases hj
end
end K42
/-! ## KBagB -/
namespace K42
open PySem PySem.Spec L2
open PyProof.Rows hiding St
theorem wipe_keep {j : Nat} (τ : St) : ∀ (l : List Nat), j ∉ l → (wipe τ l)[j]? = τ[j]?
  | [], _ => rfl
  | u :: us, hu => by
    unfold wipe
    rw [List.getElem?_set_ne (fun z => hu (by rw [z]; exact List.mem_cons_self)), wipe_keep τ us fun z => hu (List.mem_cons_of_mem _ z)]
section
variable {X : Cx} {i : Nat} {e e2 a b : Expr} {es : List Expr} {ρ : Rho} {n m : Nat} {F F2 : Da → Prop} {Fs : List Da → Prop} {d : Da} {ds : List Da} {p pos : Pos} {x : Str}
/-- [elt for x in iter], the element draws -/
theorem pb_lc {elt iter : Expr} {scope : Scope} {own : List (Str × Nat)} {p1 : Pos} (j M : Nat) (hc : X.calm = true) (hN : X.N.Nodup) (hi : PIV X (.Name x p1) iter ρ ds) (ok : BlkOk X.N X.env.scope scope own) (hm : j ∈ own.map (·.2)) (hbag : i ∉ own.map (·.2)) (hM : ds.length ≤ M)
    (hg : ∀ s H C cl fp, PG (X.blk s H scope (compEnvC scope cl C X.env) fp) (.Name x p1) (gName j))
    (he : ∀ d ∈ ds, ∀ s H C cl fp, PB (X.blk s H scope (compEnvC scope cl C X.env) fp) i elt ((wipeR ρ (own.map (·.2))).set j (some d)) n F) (hs : ∀ x, foldedSetIterable iter X.env x = pure x := by intro _; rfl) :
    PB X i (.ListComp elt [⟨.Name x p1, iter, [], 0⟩] scope pos) ρ (M * n) (fun z => ∃ es, z = .list es ∧ es.length = ds.length ∧ ∀ e ∈ es, F e) := by
  intro p c σ G H Q hib sg hl0 he0 gp hb hcm hq pins s I
  refine (pe_lc (pos := pos) (own := own) (g := gName j) (tt := tWTb X scope []) (te := tWb X scope elt) hc hN (pi_w (.Name x p1) iter) ok hg
    (fun s H C cl fp => ⟨fun pins s' σ H' Q I h => h s H C cl fp pins s' I⟩) (fun s H C cl fp => ⟨fun pins s' σ H' Q I h => h s H C cl fp pins s' I⟩) hs).run pins s σ H Q I (hi σ G H _ sg hl0 he0 fun J G1 H1 x1 wk D hD => ?_)
  have sm := wk.small
  have hb1 : Bg H1 p c := hb.same x1.hh
  have gp1 : G1 p = none := (ExtB.of (p := p) x1).gp hb gp
  have hpD : p ≠ D := fun z => hb1.ne (by rw [z]; exact hD)
  have gD : G1 D = none := x1.gh.free hD
  have up : Bg (upd H1 D (.lst [])) p c := hb1.same (same_upd hD)
  let Pv : Nat → Hp → Prop := fun k H2 => ∃ G2 acc ds2, Same G1 G2 ∧ Same G2 H2 ∧ G2 D = none ∧ H2 D = some (.lst acc) ∧ DxAll G2 acc ds2 ∧ ds2.length = k ∧ (∀ e ∈ ds2, F e) ∧ Bg H2 p (c + k * n) ∧ G2 p = none ∧ (∀ a, H1 a ≠ none → G2 a = G1 a) ∧ (∀ a o, a ≠ p → H1 a = some o → H2 a = some o)
  refine ⟨fun k m H2 => k ≤ ds.length ∧ m = ds.length - k ∧ Pv k H2, ⟨ds.length, Nat.zero_le _, rfl, G1, [], [], Same.refl G1, same_updR x1.gh gD, gD, upd_same, .nil, rfl, (fun _ h => nomatch h), by rw [Nat.zero_mul]; exact up, gp1, fun _ _ => rfl, fun a o _ ea => same_upd hD _ _ ea⟩, ?_⟩
  rintro k m H2 ⟨hk, rfl, G2, acc, ds2, s12, s22, nD, eD, dAcc, lds, fds, bk, gp2, new, sH⟩
  by_cases hlt : k < ds.length
  · refine .inr ⟨wk.go G2 H2 s12 s22 k hlt, Pv (k + 1), fun H' hP => ⟨ds.length - (k + 1), by omega, hlt, rfl, hP⟩, fun x H' hy => ?_⟩
    have ha : ds[k]? = some ds[k] := List.getElem?_eq_getElem hlt
    obtain ⟨G3, x3, dx⟩ := wk.yld G2 H2 s12 s22 k ds[k] x H' ha hy
    have hmm : ds[k] ∈ ds := List.getElem_mem hlt
    have b3 : Bg H' p (c + k * n) := bk.same x3.hh
    have gp3 : G3 p = none := (ExtB.of (p := p) x3).gp bk gp2
    have e3 : EOk G3 (wipe σ (own.map (·.2))) (wipeR ρ (own.map (·.2))) := (he0.mono ((x1.gg sg).trans (s12.trans (x3.gg s22)))).wipe _
    refine tg_name (ρ := wipeR ρ (own.map (·.2))) hm _ G3 H' x _ x3.gh (by rw [wipe_length, wipeR_length]; exact hl0) e3 dx fun σ' hlen e4 hwp => ⟨hwp.trans (by
      have := wipe_wipe (σ := σ) (own.map (·.2))
      exact this), fun s H C cl fp => ?_⟩
    have hle : ((wipeR ρ (own.map (·.2))).set j (some ds[k])).length ≤ σ'.length := by rw [List.length_set, wipeR_length, hlen, wipe_length]; exact hl0
    have hib' : σ'[i]? = some (some (.ref p)) := by
      rw [← wipe_keep σ' _ hbag, hwp, wipe_keep _ _ hbag, wipe_keep _ _ hbag]
      exact hib
    refine ptsV_run (X := X.blk s H scope (compEnvC scope cl C X.env) fp) (ifs := []) (ρ := []) (b := true) (.inl ⟨rfl, rfl⟩) σ' G3 H' _ x3.gh (Nat.zero_le _) (fun _ _ h => nomatch h) fun G4 H4 x4 => ?_
    rw [if_pos rfl]
    have b4 : Bg H4 p (c + k * n) := b3.same x4.hh
    have gp4 : G4 p = none := (ExtB.of (p := p) x4).gp b3 gp3
    have hkM : k * n + n ≤ M * n := by
      rw [← Nat.succ_mul]
      exact Nat.mul_le_mul_right _ (by omega)
    refine fun s H C cl fp => he _ hmm s H C cl fp p (c + k * n) σ' G4 H4 _ hib' x4.gh hle (e4.mono (x4.gg x3.gh)) gp4 b4 (by omega) fun y dy G5 H5 fy x5 b5 dyx => ?_
    have h4D : H4 D = some (.lst acc) := x4.hh _ _ (x3.hh _ _ eD)
    have h5D : H5 D = some (.lst acc) := x5.hh _ _ (fun z => hpD z.symm) h4D
    have g4D : G4 D = none := by rw [x4.new D (by rw [x3.hh _ _ eD]; exact fun z => nomatch z), x3.new D (by rw [eD]; exact fun z => nomatch z)]; exact nD
    have g5D : G5 D = none := by rw [x5.new D (by rw [h4D]; exact fun z => nomatch z)]; exact g4D
    have s25 : Same G2 G5 := (x3.gg s22).trans ((x4.gg x3.gh).trans (x5.gg x4.gh))
    refine ⟨acc, h5D, ?_, G5, acc ++ [y], ds2 ++ [dy], s12.trans s25, same_updR x5.gh g5D, g5D, upd_same, (DxAll.mono s25 _ dAcc).append (.cons dyx .nil), by rw [List.length_append, lds]; rfl, fun e he2 => ?_, ?_, ?_, fun a ha1 => ?_, fun a o na ea => ?_⟩
    · rw [dAcc.length, lds]
      omega
    · rcases List.mem_append.mp he2 with h | h
      · exact fds e h
      · rw [List.mem_singleton.mp h]
        exact fy
    · obtain ⟨g', m', k', q1, q2⟩ := b5
      rw [Nat.succ_mul, ← Nat.add_assoc]
      exact ⟨g', m', k', by rw [upd_ne hpD]; exact q1, q2⟩
    · exact x5.gp b4 gp4
    · have h2 : H2 a ≠ none := by
        by_cases e : a = p
        · rw [e]; exact bk.ne
        · cases q : H1 a with
          | none => exact absurd q ha1
          | some o => rw [sH a o e q]; exact fun z => nomatch z
      have h3 : H' a ≠ none := fun z => h2 (x3.hh.free z)
      have h4 : H4 a ≠ none := fun z => h3 (x4.hh.free z)
      rw [x5.new a h4, x4.new a h3, x3.new a h2, new a ha1]
    · have naD : a ≠ D := ne_of_none ea hD
      rw [upd_ne naD]
      exact x5.hh a o na (x4.hh _ _ (x3.hh _ _ (sH a o na ea)))
  · have ek : k = ds.length := by omega
    subst ek
    have hkM : ds.length * n ≤ M * n := Nat.mul_le_mul_right _ hM
    refine .inl ⟨wk.stop G2 H2 s12 s22, hq _ (.list ds2) (upd G2 D (.lst acc)) H2 ⟨ds2, rfl, lds, fds⟩ ⟨fun a o na ea => sH a o na (x1.hh _ _ ea), fun b o eb => ?_, fun a ha => ?_⟩ (bk.mono (by omega)) (.lst upd_same (DxAll.mono (same_upd nD) _ dAcc))⟩
    · by_cases hbb : b = D
      · subst hbb
        rw [upd_same] at eb
        cases eb
        exact eD
      · rw [upd_ne hbb] at eb
        exact s22 _ _ eb
    · have h1 : H1 a ≠ none := fun z => ha (x1.hh.free z)
      have hb : a ≠ D := fun z => h1 (by rw [z]; exact hD)
      rw [upd_ne hb, new a h1, x1.new a ha]
end
end K42
/-! ## KBagC -/
namespace K42
open PySem PySem.Spec L2
open PyProof.Rows hiding St
abbrev sDraw : Stmt := topS 40
abbrev nDraw : List Str := ["_law_bag_here", "_law_many", "_law_digit", "_law_mixed_here"]
theorem scDraw : FnScope nDraw ["_law_bag_here", "_law_many"] (defScope sDraw) := ⟨rfl, rfl, rfl, by decide +kernel, rfl, by decide +kernel, by decide +kernel⟩
def preDraw : List Da → Prop := fun ds => ∃ m : Nat, ds = [nD m] ∧ 0 < m ∧ m ≤ 1000
def postDraw : List Da → Da → Prop := fun ds d => ∃ m j : Nat, ds = [nD m] ∧ d = nD j ∧ j < m
theorem set_bag {a b c d : V} : ([a, b, c].set 0 d) = [d, b, c] := rfl
section
variable {P : Program} {w : World} {K : PySem.W.Frag} {mg : Str → Option Value} {base : Heap} {k : Nat}
theorem c_draw (F : Fn K mg "_law_draw" sDraw ["_law_bag_here", "_law_many"]) (B : Bi mg) : CalB P w K mg base (k + 1) "_law_draw" ["_law_bag_here", "_law_many"] preDraw (fun _ => 1) postDraw := by
  refine calB_of F preDraw (fun _ => 1) postDraw scDraw (by decide) (fun ds h => ?_) fun f cdv A outer s H E ds hr hu h => ?_
  · obtain ⟨m, rfl, _⟩ := h
    rfl
  obtain ⟨many, rfl, hm0, hm⟩ := h
  intro p c G H σ D hi sg hl he gp hb hc hret pins s' I
  obtain ⟨v1, h1, d1⟩ := he 1 (nD many) rfl
  cases d1
  obtain ⟨g, m, kk, hbp, hg, hm1, hm2, hk1, hk2⟩ := hb
  refine (pss_cons (ps_if (pt_cmpR op_gt (pe_ix ix_list (pv 0) pe_int (fun _ _ => rfl)) pe_int (nomark _))
    (pss_cons (ps_set (i := 2) scDraw.nd rfl (.inl rfl) (pe_op op_mod (pe_callTy call_int1 (by rfl) B.it boot_int' (pa_cons (pe_ix ix_list (pv 0) pe_int (fun _ _ => rfl)) pa_nil)) (pv 1)))
      (pss_cons (ps_asg (pe_op op_fdiv (pe_ix ix_list (pv 0) pe_int (fun _ _ => rfl)) (pv 1)) (pg_sub (pv 0) pe_int set_list)) (pss_one (ps_ret (pv 2))))) pss_nil)
    (pss_cons (ps_asg (pe_op op_add (pe_ix ix_list (pv 0) pe_int (fun _ _ => rfl)) pe_int) (pg_sub (pv 0) pe_int set_list))
    (pss_cons (ps_set (i := 3) scDraw.nd rfl (.inl rfl) (pe_op op_mod (pe_op op_mul (pe_callTy call_int1 (by rfl) B.it boot_int' (pa_cons (pe_op op_add (pe_op op_add (pe_ix ix_list (pv 0) pe_int (fun _ _ => rfl)) (pe_op op_mul (pe_op op_mul pe_int (pe_ix ix_list (pv 0) pe_int (fun _ _ => rfl))) (pe_ix ix_list (pv 0) pe_int (fun _ _ => rfl)))) pe_int) pa_nil)) pe_int) pe_int))
    (pss_one (ps_ret (pe_op op_mod (pe_op op_fdiv (pe_op op_mod (pe_callTy call_int1 (by rfl) B.it boot_int' (pa_cons (pe_op op_add (pe_op op_mul (pv 3) (pv 3)) (pe_op op_mul pe_int (pe_ix ix_list (pv 0) pe_int (fun _ _ => rfl)))) pa_nil)) pe_int) pe_int) (pv 1))))))).run pins s' σ H D I ?_
  have bag : ∀ {g m k : Int}, SqL K (upd H p (.lst [.int g, .int m, .int k])) p [.int g, .int m, .int k] := SqL.of upd_same
  have hl4 : 4 ≤ σ.length := hl
  have pm : (0 : Int) < (many : Int) := by omega
  refine ⟨.ref p, hi, p, [.int g, .int m, .int kk], 0, .int g, rfl, rfl, SqL.of hbp, rfl, g, 0, rfl, rfl, decide (0 < g), rfl, ite2 (fun e => ?_) (fun e => ?_)⟩
  · have hg0 : 0 < g := of_decide_eq_true e
    have s0 : (σ.set 2 (some (.int (g % (many : Int)))))[0]? = some (some (.ref p)) := by rw [List.getElem?_set_ne (by decide)]; exact hi
    have s1 : (σ.set 2 (some (.int (g % (many : Int)))))[1]? = some (some (.int (many : Int))) := by rw [List.getElem?_set_ne (by decide)]; exact h1
    have s2 : (σ.set 2 (some (.int (g % (many : Int)))))[2]? = some (some (.int (g % (many : Int)))) := List.getElem?_set_self (by omega)
    refine ⟨.ref p, hi, p, [.int g, .int m, .int kk], 0, .int g, rfl, rfl, SqL.of hbp, rfl, .inl ⟨g, rfl, .int many, h1, g, (many : Int), rfl, rfl, pm, ?_⟩⟩
    refine ⟨.ref p, s0, p, [.int g, .int m, .int kk], 0, .int g, rfl, rfl, SqL.of hbp, rfl, .int many, s1, g, (many : Int), rfl, rfl, ⟨pm, by omega⟩, ?_⟩
    refine ⟨.ref p, s0, p, [.int g, .int m, .int kk], 0, 0, rfl, rfl, hbp, rfl, .int (g % (many : Int)), s2, ?_⟩
    have h2 := Int.emod_nonneg g (show (many : Int) ≠ 0 by omega)
    have h3 := Int.emod_lt_of_pos g pm
    have e1 : g % (many : Int) = (((g % (many : Int)).toNat : Nat) : Int) := (Int.toNat_of_nonneg h2).symm
    refine hret _ (nD (g % (many : Int)).toNat) G _ ⟨many, _, rfl, rfl, by omega⟩ ⟨fun a o na ea => by rw [upd_ne na]; exact ea, same_updR sg gp, fun _ _ => rfl⟩ ⟨g / (many : Int), m, kk, upd_same, Int.ediv_nonneg hg (by omega), hm1, hm2, hk1, by omega⟩ ?_
    unfold nD
    rw [← e1]
    exact .int _
  · have hck : kk + 1 ≤ 1000000 := by
      have : c + 1 ≤ 1000000 := hc
      omega
    have hb1 : (upd H p (.lst [.int g, .int m, .int (kk + 1)])) p = some (.lst [.int g, .int m, .int (kk + 1)]) := upd_same
    refine ⟨.ref p, hi, p, [.int g, .int m, .int kk], 2, .int kk, rfl, rfl, SqL.of hbp, rfl, kk, 1, rfl, rfl, .ref p, hi, p, [.int g, .int m, .int kk], 2, 2, rfl, rfl, hbp, rfl, ?_⟩
    have bs : SqL K (upd H p (.lst [.int g, .int m, .int (kk + 1)])) p [.int g, .int m, .int (kk + 1)] := SqL.of upd_same
    refine ⟨.ref p, hi, p, [.int g, .int m, .int (kk + 1)], 1, .int m, rfl, rfl, bs, rfl, ?_⟩
    refine ⟨.ref p, hi, p, [.int g, .int m, .int (kk + 1)], 2, .int (kk + 1), rfl, rfl, bs, rfl, 61843, kk + 1, rfl, rfl, .inl (by decide), ?_⟩
    refine ⟨.ref p, hi, p, [.int g, .int m, .int (kk + 1)], 2, .int (kk + 1), rfl, rfl, bs, rfl, 61843 * (kk + 1), kk + 1, rfl, rfl, .inr (by omega), ?_⟩
    refine ⟨m, 61843 * (kk + 1) * (kk + 1), rfl, rfl, _, 29, rfl, rfl, .inl ⟨_, rfl, _, 48271, rfl, rfl, .inr (by decide), _, 2147483629, rfl, rfl, (show (0 : Int) < 2147483629 by decide), ?_⟩⟩
    obtain ⟨x, hx⟩ : ∃ x : Int, (m + 61843 * (kk + 1) * (kk + 1) + 29) * 48271 % 2147483629 = x := ⟨_, rfl⟩
    have hx1 : 0 ≤ x ∧ x < 2147483629 := by
      rw [← hx]
      exact ⟨Int.emod_nonneg _ (by decide), Int.emod_lt_of_pos _ (by decide)⟩
    have t0 : (σ.set 3 (some (.int ((m + 61843 * (kk + 1) * (kk + 1) + 29) * 48271 % 2147483629))))[0]? = some (some (.ref p)) := by rw [List.getElem?_set_ne (by decide)]; exact hi
    have t1 : (σ.set 3 (some (.int ((m + 61843 * (kk + 1) * (kk + 1) + 29) * 48271 % 2147483629))))[1]? = some (some (.int (many : Int))) := by rw [List.getElem?_set_ne (by decide)]; exact h1
    have t3 : (σ.set 3 (some (.int ((m + 61843 * (kk + 1) * (kk + 1) + 29) * 48271 % 2147483629))))[3]? = some (some (.int x)) := by
      rw [hx]
      exact List.getElem?_set_self (by omega)
    refine ⟨.int x, t3, .int x, t3, x, x, rfl, rfl, .inl (by omega), ?_⟩
    refine ⟨.ref p, t0, p, [.int g, .int m, .int (kk + 1)], 2, .int (kk + 1), rfl, rfl, bs, rfl, 40692, kk + 1, rfl, rfl, .inl (by decide), ?_⟩
    refine ⟨x * x, 40692 * (kk + 1), rfl, rfl, .inl ⟨_, rfl, _, 2147483563, rfl, rfl, (show (0 : Int) < 2147483563 by decide), _, 32, rfl, rfl, (show (0 : Int) < 32 ∧ (32 : Int) < 1073741824 by decide), .int (many : Int), t1, _, (many : Int), rfl, rfl, pm, ?_⟩⟩
    show D.rt (.int ((x * x + 40692 * (kk + 1)) % 2147483563 / 32 % (many : Int))) _
    generalize (x * x + 40692 * (kk + 1)) % 2147483563 / 32 = y
    have h2 := Int.emod_nonneg y (show (many : Int) ≠ 0 by omega)
    have h3 := Int.emod_lt_of_pos y pm
    have e1 : y % (many : Int) = (((y % (many : Int)).toNat : Nat) : Int) := (Int.toNat_of_nonneg h2).symm
    refine hret _ (nD (y % (many : Int)).toNat) G _ ⟨many, _, rfl, rfl, by omega⟩ ⟨fun a o na ea => by rw [upd_ne na]; exact ea, same_updR sg gp, fun _ _ => rfl⟩ ⟨g, m, kk + 1, upd_same, hg, hm1, hm2, by omega, by omega⟩ ?_
    unfold nD
    rw [← e1]
    exact .int _
end
end K42
/-! ## KBagD -/
namespace K42
open PySem PySem.Spec L2
open PyProof.Rows hiding St
abbrev sBag : Stmt := topS 39
abbrev sPick : Stmt := topS 41
abbrev sMixed : Stmt := topS 42
abbrev sTable : Stmt := topS 44
abbrev sWay : Stmt := topS 45
def prePick : List Da → Prop := fun ds => ∃ xs : List Da, ds = [.list xs] ∧ 0 < xs.length ∧ xs.length ≤ 1000
def postPick : List Da → Da → Prop := fun ds d => ∃ xs : List Da, ds = [.list xs] ∧ d ∈ xs
/-- a table as the law makes it: how many dots, of how many holders -/
def IsTab (h m : Nat) (t : Tab) : Prop := ∃ t' : Tab, t = sortBy ltG t' ∧ t'.length = m ∧ ∀ x ∈ t', x ∈ groups h
def preTable : List Da → Prop := fun ds => ∃ h m : Nat, ds = [nD h, nD m] ∧ h ≤ 5 ∧ m ≤ 100
def postTable : List Da → Da → Prop := fun ds d => ∃ (h m : Nat) (t : Tab), ds = [nD h, nD m] ∧ d = tabD t ∧ IsTab h m t
def preWay : List Da → Prop := fun ds => ∃ h t m : Nat, ds = [nD h, nD t, nD m] ∧ h ≤ 5 ∧ t ≤ 10 ∧ m ≤ 100
def postWay : List Da → Da → Prop := fun ds d => ∃ (h t m : Nat) (w : Way), ds = [nD h, nD t, nD m] ∧ d = wayD w ∧ w.h = h ∧ w.tabs.length = t ∧ ∀ x ∈ w.tabs, IsTab h m x
theorem nD_inj {a b : Nat} (h : nD a = nD b) : a = b := by
  unfold nD at h
  injection h with h
  omega
section
variable {P : Program} {w : World} {K : PySem.W.Frag} {mg : Str → Option Value} {base : Heap} {k : Nat}
abbrev nPick : List Str := ["_law_bag_here", "_law_items"]
theorem scPick : FnScope nPick ["_law_bag_here", "_law_items"] (defScope sPick) := ⟨rfl, rfl, rfl, by decide +kernel, rfl, by decide +kernel, by decide +kernel⟩
theorem c_pick (F : Fn K mg "_law_pick" sPick ["_law_bag_here", "_law_items"]) (B : Bi mg) (C : CalB P w K mg base k "_law_draw" ["_law_bag_here", "_law_many"] preDraw (fun _ => 1) postDraw) : CalB P w K mg base (k + 1) "_law_pick" ["_law_bag_here", "_law_items"] prePick (fun _ => 1) postPick := by
  refine calB_of F prePick (fun _ => 1) postPick scPick (by decide) (fun ds h => ?_) fun f cdv A outer s H E ds hr hu h => ?_
  · obtain ⟨m, rfl, _⟩ := h
    rfl
  obtain ⟨xs, rfl, h1, h2⟩ := h
  refine jb_ret (F := fun d => d ∈ xs) (pb_ix (l := true) (k := false) (ds := xs) (pvn 1 rfl) ((pb_c (m := 0) (N := 1) C hr rfl ((pba_cons (pb_of (pv_lenL (pvn 1 rfl) B.le)) pba_nil).imp (F2s := fun ds => ds = [nD xs.length]) (fun ds q => ?_) (Nat.le_refl 0)) (fun ds q => ?_)).imp (fun d q => ?_) (Nat.le_refl 1))) (fun d hd => ⟨xs, rfl, hd⟩)
  · obtain ⟨d, r, rfl, rfl, rfl⟩ := q
    rfl
  · exact ⟨⟨xs.length, q, h1, h2⟩, Nat.le_refl 1⟩
  · obtain ⟨ds, rfl, m, j, e, rfl, hj⟩ := q
    injection e with e _
    rw [← nD_inj e] at hj
    exact ⟨j, rfl, hj⟩
abbrev nTable : List Str := ["_law_bag_here", "_law_holders", "_law_many", "_law_every", "_law_few", "_law_turn"]
theorem scTable : FnScope nTable ["_law_bag_here", "_law_holders", "_law_many"] (defScope sTable) := ⟨rfl, rfl, rfl, by decide +kernel, rfl, by decide +kernel, by decide +kernel⟩
theorem groups_pos (h : Nat) : 0 < (groups h).length := by
  unfold groups parts sortBy
  rw [(List.mergeSort_perm _ _).length_eq, partsU_length]
  exact Nat.mul_pos (by decide) (Nat.pow_pos (by decide))
theorem all_gD {gs : List Grp} : ∀ {es : List Da}, (∀ e ∈ es, e ∈ gs.map gD) → ∃ t : List Grp, es = t.map gD ∧ ∀ x ∈ t, x ∈ gs
  | [], _ => ⟨[], rfl, fun _ h => nomatch h⟩
  | e :: es, h => by
    obtain ⟨t, h1, h2⟩ := all_gD (es := es) fun x hx => h x (List.mem_cons_of_mem _ hx)
    obtain ⟨g, hg, rfl⟩ := List.mem_map.mp (h e List.mem_cons_self)
    exact ⟨g :: t, by rw [List.map_cons, h1], fun x hx => by
      rcases List.mem_cons.mp hx with rfl | hx
      · exact hg
      · exact h2 x hx⟩
theorem c_table (F : Fn K mg "_law_table" sTable ["_law_bag_here", "_law_holders", "_law_many"]) (B : Bi mg) (C : CalB P w K mg base k "_law_pick" ["_law_bag_here", "_law_items"] prePick (fun _ => 1) postPick) (D : Cal P w K mg base k "_law_groups" ["_law_holders"] fLawGroups) :
    CalB P w K mg base (k + 1) "_law_table" ["_law_bag_here", "_law_holders", "_law_many"] preTable (fun _ => 203) postTable := by
  refine calB_of F preTable (fun _ => 203) postTable scTable (by decide) (fun ds h => ?_) fun f cdv A outer s H E ds hr hu h => ?_
  · obtain ⟨_, _, rfl, _⟩ := h
    rfl
  obtain ⟨h, m, rfl, hh, hm⟩ := h
  have gl := groups_len hh
  have gp := groups_pos h
  refine jb_set (n := 0) (m := 203) (j := 3) scTable.nd rfl (by decide) (pb_of (pv_c D hr (pav_cons (pvn 1 rfl) pav_nil) ⟨h, rfl, hh, rfl⟩)) fun d hd => ?_
  subst hd
  refine jb_set (n := 3) (m := 200) (j := 4) scTable.nd rfl (by decide) (pb_lc (own := [("_law_turn", 5)]) (n := 1) (F := fun d => d ∈ (groups h).map gD) 5 3 rfl scTable.nd (piv_range (n := 3) pv_int (by decide) rfl B.ra) (blkOk_by (N := nTable) (sc := defScope sTable) (by decide +kernel)) (by decide) (by decide) (by decide) (fun _ _ _ _ _ => pg_name (FnScope.nd scTable) rfl (.inl rfl))
    (fun d hd _ _ _ _ _ => (pb_c (m := 0) (N := 1) C hr rfl ((pba_cons (pb_of (pvn 3 rfl)) pba_nil).imp (F2s := fun ds => ds = [.list ((groups h).map gD)]) (fun ds q => by
      obtain ⟨d, r, rfl, rfl, rfl⟩ := q
      rfl) (Nat.le_refl 0)) (fun ds q => ⟨⟨_, q, by rw [List.length_map]; exact gp, by rw [List.length_map]; omega⟩, Nat.le_refl 1⟩)).imp (fun d q => by
      obtain ⟨ds, rfl, xs, e, hx⟩ := q
      injection e with e _
      injection e with e
      rw [e]
      exact hx) (Nat.le_refl 1))) fun d hd => ?_
  obtain ⟨es, rfl, hl, hes⟩ := hd
  have hl3 : es.length = 3 := hl
  refine jb_ret (F := fun d => ∃ t, d = tabD t ∧ IsTab h m t) (PB.imp (pb_tupleF (F := fun d => ∃ d0, (∃ es : List Da, d0 = .list es ∧ es.length = m ∧ ∀ e ∈ es, e ∈ (groups h).map gD) ∧ d = .list (msort (itemsD d0))) (fun d q => ?_) (pb_sorted (F := fun d => ∃ es : List Da, d = .list es ∧ es.length = m ∧ ∀ e ∈ es, e ∈ (groups h).map gD) hu (fun d q => ?_)
    (PB.imp (pb_lc (own := [("_law_turn", 5)]) (n := 2) (F := fun d => d ∈ (groups h).map gD) 5 100 rfl scTable.nd (piv_range (n := m) (pvn 2 rfl) (by omega) (by rfl) B.ra) (blkOk_by (N := nTable) (sc := defScope sTable) (by decide +kernel)) (by decide) (by decide) (by rw [upto_length]; exact hm) (fun _ _ _ _ _ => pg_name (FnScope.nd scTable) rfl (.inl rfl))
      (fun d hd _ _ _ _ _ => (pb_c (m := 1) (N := 1) C hr rfl ((pba_cons (n := 1) (m := 0) (F := fun d => d ∈ [.list ((groups h).map gD), .list es]) ((pb_c (m := 0) (N := 1) C hr rfl ((pba_cons (pb_of (pv_lst (pav_cons (pvn 3 rfl) (pav_cons (pvn 4 rfl) pav_nil)))) pba_nil).imp (F2s := fun ds => ds = [.list [.list ((groups h).map gD), .list es]]) (fun ds q => by
        obtain ⟨d, r, rfl, rfl, rfl⟩ := q
        rfl) (Nat.le_refl 0)) (fun ds q => ⟨⟨_, q, by show 0 < 2; decide, by show 2 ≤ 1000; decide⟩, Nat.le_refl 1⟩)).imp (fun d q => by
        obtain ⟨ds, rfl, xs, e, hx⟩ := q
        injection e with e _
        injection e with e
        rw [e]
        exact hx) (Nat.le_refl 1)) pba_nil).imp (F2s := fun ds => ∃ xs : List Da, ds = [.list xs] ∧ 0 < xs.length ∧ xs.length ≤ 1000 ∧ ∀ e ∈ xs, e ∈ (groups h).map gD) (fun ds q => by
        obtain ⟨d, r, rfl, q, rfl⟩ := q
        rcases List.mem_cons.mp q with rfl | q
        · exact ⟨_, rfl, by rw [List.length_map]; exact gp, by rw [List.length_map]; omega, fun _ h => h⟩
        · rw [List.mem_singleton.mp q]
          exact ⟨_, rfl, by omega, by omega, hes⟩) (Nat.le_refl 1)) (fun ds q => by
        obtain ⟨xs, e, q1, q2, _⟩ := q
        exact ⟨⟨xs, e, q1, q2⟩, Nat.le_refl 1⟩)).imp (fun d q => by
        obtain ⟨ds, ⟨xs, rfl, _, _, q3⟩, ys, e, hx⟩ := q
        injection e with e _
        injection e with e
        rw [← e] at hx
        exact q3 d hx) (Nat.le_refl 2))) (fun d q => by
        obtain ⟨es, rfl, e1, e2⟩ := q
        exact ⟨es, rfl, by rw [e1, upto_length], e2⟩) (Nat.le_refl 200)) B.so) B.tu) (fun d q => ?_) (Nat.le_refl 200)) (fun d q => ?_)
  · obtain ⟨d0, _, rfl⟩ := q
    exact ⟨_, rfl⟩
  · obtain ⟨es, rfl, _, q⟩ := q
    obtain ⟨t, rfl, _⟩ := all_gD q
    exact ⟨_, rfl, sortOk_gD t⟩
  · obtain ⟨d, ⟨d0, ⟨es, rfl, q1, q2⟩, rfl⟩, rfl⟩ := q
    obtain ⟨t, rfl, q3⟩ := all_gD q2
    refine ⟨sortBy ltG t, ?_, t, rfl, by rw [← q1, List.length_map], q3⟩
    show Da.tuple true (msort (t.map gD)) = _
    rw [msort_map lt_gD]
    rfl
  · obtain ⟨t, rfl, q⟩ := q
    exact ⟨h, m, t, rfl, rfl, q⟩
abbrev nWay : List Str := ["_law_bag_here", "_law_holders", "_law_tones", "_law_many", "_law_mode", "_law_tone"]
theorem scWay : FnScope nWay ["_law_bag_here", "_law_holders", "_law_tones", "_law_many"] (defScope sWay) := ⟨rfl, rfl, rfl, by decide +kernel, rfl, by decide +kernel, by decide +kernel⟩
theorem all_tabD {h m : Nat} : ∀ {es : List Da}, (∀ e ∈ es, ∃ t, e = tabD t ∧ IsTab h m t) → ∃ ts : List Tab, es = ts.map tabD ∧ ∀ x ∈ ts, IsTab h m x
  | [], _ => ⟨[], rfl, fun _ h => nomatch h⟩
  | e :: es, h => by
    obtain ⟨t, h1, h2⟩ := all_tabD (es := es) fun x hx => h x (List.mem_cons_of_mem _ hx)
    obtain ⟨g, rfl, hg⟩ := h e List.mem_cons_self
    exact ⟨g :: t, by rw [List.map_cons, h1], fun x hx => by
      rcases List.mem_cons.mp hx with rfl | hx
      · exact hg
      · exact h2 x hx⟩
theorem c_way (F : Fn K mg "_law_way" sWay ["_law_bag_here", "_law_holders", "_law_tones", "_law_many"]) (B : Bi mg) (C : CalB P w K mg base k "_law_pick" ["_law_bag_here", "_law_items"] prePick (fun _ => 1) postPick) (D : CalB P w K mg base k "_law_table" ["_law_bag_here", "_law_holders", "_law_many"] preTable (fun _ => 203) postTable) :
    CalB P w K mg base (k + 1) "_law_way" ["_law_bag_here", "_law_holders", "_law_tones", "_law_many"] preWay (fun _ => 2031) postWay := by
  refine calB_of F preWay (fun _ => 2031) postWay scWay (by decide) (fun ds h => ?_) fun f cdv A outer s H E ds hr hu h => ?_
  · obtain ⟨_, _, _, rfl, _⟩ := h
    rfl
  obtain ⟨h, tt, m, rfl, hh, ht, hm⟩ := h
  refine jb_set (n := 1) (m := 2030) (j := 4) scWay.nd rfl (by decide) ((pb_c (m := 0) (N := 1) C hr rfl ((pba_cons (pb_of (pv_lst (pav_cons pv_str (pav_cons pv_str pav_nil)))) pba_nil).imp (F2s := fun ds => ds = [.list [modeD false, modeD true]]) (fun ds q => by
      obtain ⟨d, r, rfl, rfl, rfl⟩ := q
      rfl) (Nat.le_refl 0)) (fun ds q => ⟨⟨_, q, by show 0 < 2; decide, by show 2 ≤ 1000; decide⟩, Nat.le_refl 1⟩)).imp (F2 := fun d => ∃ odd, d = modeD odd) (fun d q => by
      obtain ⟨ds, rfl, xs, e, hx⟩ := q
      injection e with e _
      injection e with e
      rw [← e] at hx
      rcases List.mem_cons.mp hx with rfl | hx
      · exact ⟨false, rfl⟩
      · exact ⟨true, List.mem_singleton.mp hx⟩) (Nat.le_refl 1)) fun d hd => ?_
  obtain ⟨odd, rfl⟩ := hd
  refine jb_ret (pb_tup (pba_cons (n := 0) (m := 2030) (pb_of (pvn 1 rfl)) (pba_cons (n := 0) (m := 2030) (pb_of (pvn 4 rfl)) (pba_cons (n := 2030) (m := 0) (PB.imp (F2 := fun d => ∃ ts : List Tab, d = tabsD ts ∧ ts.length = tt ∧ ∀ x ∈ ts, IsTab h m x) (pb_tupleL (F := fun d => ∃ es : List Da, d = .list es ∧ es.length = tt ∧ ∀ e ∈ es, ∃ t, e = tabD t ∧ IsTab h m t) (fun d q => ?_) (PB.imp (pb_lc (own := [("_law_tone", 5)]) (n := 203) (F := fun d => ∃ t, d = tabD t ∧ IsTab h m t) 5 10 rfl scWay.nd (piv_range (n := tt) (pvn 2 rfl) (by omega) rfl B.ra) (blkOk_by (N := nWay) (sc := defScope sWay) (by decide +kernel)) (by decide) (by decide) (by rw [upto_length]; exact ht) (fun _ _ _ _ _ => pg_name (FnScope.nd scWay) rfl (.inl rfl))
      (fun d hd _ _ _ _ _ => (pb_c (m := 0) (N := 203) D hr rfl ((pba_cons (n := 0) (m := 0) (pb_of (pvn 1 rfl)) (pba_cons (pb_of (pvn 3 rfl)) pba_nil)).imp (F2s := fun ds => ds = [nD h, nD m]) (fun ds q => by
        obtain ⟨d, r, rfl, rfl, d2, r2, rfl, rfl, rfl⟩ := q
        rfl) (Nat.le_refl 0)) (fun ds q => ⟨⟨h, m, q, hh, hm⟩, Nat.le_refl 203⟩)).imp (fun d q => by
        obtain ⟨ds, rfl, h2, m2, t, e, rfl, q⟩ := q
        injection e with e1 e
        injection e with e2 _
        rw [← nD_inj e1, ← nD_inj e2] at q
        exact ⟨t, rfl, q⟩) (Nat.le_refl 203))) (fun d q => by
        obtain ⟨es, rfl, e1, e2⟩ := q
        exact ⟨es, rfl, by rw [e1, upto_length], e2⟩) (Nat.le_refl 2030)) B.tu) (fun d q => ?_) (Nat.le_refl 2030)) pba_nil))) (fun ds q => ?_)) (fun d q => ?_)
  · obtain ⟨es, rfl, _⟩ := q
    exact ⟨es, rfl⟩
  · obtain ⟨d, ⟨es, rfl, q1, q2⟩, rfl⟩ := q
    obtain ⟨ts, rfl, q3⟩ := all_tabD q2
    exact ⟨ts, rfl, by rw [← q1, List.length_map], q3⟩
  · obtain ⟨d, r, rfl, rfl, d2, r2, rfl, rfl, d3, r3, rfl, _, rfl⟩ := q
    show 3 ≤ 1000
    decide
  · obtain ⟨ds, ⟨d, r, rfl, rfl, d2, r2, rfl, rfl, d3, r3, rfl, ⟨ts, rfl, q1, q2⟩, rfl⟩, rfl⟩ := q
    exact ⟨h, tt, m, ⟨h, odd, ts⟩, rfl, rfl, rfl, q1, q2⟩
end
end K42
/-! ## KBagE -/
namespace K42
open PySem PySem.Spec L2
open PyProof.Rows hiding St
def preMixed : List Da → Prop := fun ds => ∃ m : Nat, ds = [nD m] ∧ m ≤ 5
def postMixed : List Da → Da → Prop := fun ds d => ∃ (m : Nat) (o : List Nat), ds = [nD m] ∧ d = ordD o ∧ o.Perm (List.range m)
theorem erase_map {α β : Type} (f : α → β) : ∀ (xs : List α) (i : Nat), (xs.map f).eraseIdx i = (xs.eraseIdx i).map f
  | [], _ => rfl
  | _ :: _, 0 => rfl
  | x :: xs, i + 1 => by rw [List.map_cons, List.eraseIdx_cons_succ, List.eraseIdx_cons_succ, List.map_cons, erase_map f xs i]
theorem erase_perm : ∀ (rs : List Nat) (j : Nat) (h : j < rs.length), (rs[j] :: rs.eraseIdx j).Perm rs
  | x :: xs, 0, _ => List.Perm.refl _
  | x :: xs, j + 1, h => by
    rw [List.eraseIdx_cons_succ, List.getElem_cons_succ]
    exact (List.Perm.swap _ _ _).trans ((erase_perm xs j (Nat.lt_of_succ_lt_succ h)).cons x)
theorem vN_dx (G : Hp) (g : List Nat) : DxAll G (vN g) (g.map nD) := by
  rw [map_nD]
  have := DxAll.ints G (g.map fun n : Nat => (n : Int))
  rw [List.map_map] at this
  exact this
section
variable {P : Program} {w : World} {K : PySem.W.Frag} {mg : Str → Option Value} {base : Heap} {k : Nat}
abbrev nMixed : List Str := ["_law_bag_here", "_law_many", "_law_rest", "_law_found", "_law_turn"]
theorem scMixed : FnScope nMixed ["_law_bag_here", "_law_many"] (defScope sMixed) := ⟨rfl, rfl, rfl, by decide +kernel, rfl, by decide +kernel, by decide +kernel⟩
theorem c_mixed (F : Fn K mg "_law_mixed" sMixed ["_law_bag_here", "_law_many"]) (B : Bi mg) (C : CalB P w K mg base k "_law_draw" ["_law_bag_here", "_law_many"] preDraw (fun _ => 1) postDraw) : CalB P w K mg base (k + 1) "_law_mixed" ["_law_bag_here", "_law_many"] preMixed (fun _ => 5) postMixed := by
  refine calB_of F preMixed (fun _ => 5) postMixed scMixed (by decide) (fun ds h => ?_) fun f cdv A outer s H E ds hr hu h => ?_
  · obtain ⟨m, rfl, _⟩ := h
    rfl
  obtain ⟨many, rfl, hm⟩ := h
  intro p c G H σ D hi sg hl he gp hb hc hret pins s' I
  obtain ⟨v1, h1, d1⟩ := he 1 (nD many) rfl
  cases d1
  have hl5 : 5 ≤ σ.length := hl
  obtain ⟨fD, fdD, g1, g2, g3, g4⟩ := C
  refine (pss_cons (ps_par (i := 2) (j := 3) rfl scMixed.nd rfl rfl (by decide) rfl rfl (pa_cons (pe_listRg rfl (by rfl) B.li (prg_1 (by rfl) B.ra (pv 1))) (pa_cons (pe_lst pa_nil) pa_nil)) rfl rfl)
    (pss_cons (ps_for PassesOwn.never rfl (pi_range1 (by rfl) B.ra (pa_cons (pv 1) pa_nil)) (pg_name (i := 4) scMixed.nd rfl (.inl rfl))
      (pss_one (ps_expr (pe_bm PySem.F.plainAttrs_list PySem.F.slot_list_append PySem.F.type_list_append mt_append (pv 3) (pa_cons (pe_bm PySem.F.plainAttrs_list PySem.F.slot_list_pop PySem.F.type_list_pop mt_popAt (pv 2)
        (pa_cons (pe_call g1 hr (by rfl) g2 g3 g4 .nil pass0 (pa_cons (pv 0) (pa_cons (pe_callB call_len_seq (by rfl) B.le boot_len' (pa_cons (pv 2) pa_nil)) pa_nil))) pa_nil)) pa_nil)))))
    (pss_one (ps_ret (pe_callTy call_tupleF (by rfl) B.tu boot_tuple' (pa_cons (pv 3) pa_nil)))))).run pins s' σ H D I ?_
  refine ⟨.int many, h1, many, rfl, RgOk.of_le (by omega) (by omega) (by omega) (by omega), fun r hr0 => ⟨Nat.zero_le _, fun f hf0 => ⟨_, _, rfl, ?_⟩⟩⟩
  have hfr : f ≠ r := fun z => by rw [z, upd_same] at hf0; cases hf0
  have hf1 : H f = none := by rw [upd_ne hfr] at hf0; exact hf0
  have hpr : p ≠ r := fun z => hb.ne (by rw [z]; exact hr0)
  have hpf : p ≠ f := fun z => hb.ne (by rw [z]; exact hf1)
  have σ1 : ((σ.set 2 (some (.ref r))).set 3 (some (.ref f)))[1]? = some (some (.int (many : Int))) := by rw [List.getElem?_set_ne (by decide), List.getElem?_set_ne (by decide)]; exact h1
  refine ⟨.int many, σ1, many, rfl, by omega, by omega, ?_⟩
  refine ⟨fun i m τ H3 => ∃ rs fs : List Nat, i ≤ many ∧ m = many - i ∧ τ[0]? = some (some (.ref p)) ∧ τ[1]? = some (some (.int (many : Int))) ∧ τ[2]? = some (some (.ref r)) ∧ τ[3]? = some (some (.ref f)) ∧ 5 ≤ τ.length ∧ Bg H3 p (c + i) ∧ H3 r = some (.lst (vN rs)) ∧ H3 f = some (.lst (vN fs)) ∧ (fs ++ rs).Perm (List.range many) ∧ rs.length = many - i ∧ fs.length = i ∧ (∀ a o, a ≠ p → H a = some o → H3 a = some o),
    ⟨many, List.range many, [], Nat.zero_le _, rfl, ?_, σ1, ?_, ?_, by simp only [List.length_set]; exact hl5, ?_, ?_, ?_, List.Perm.refl _, by rw [List.length_range]; rfl, rfl, fun a o na ea => ?_⟩, ?_⟩
  · rw [List.getElem?_set_ne (by decide), List.getElem?_set_ne (by decide)]; exact hi
  · rw [List.getElem?_set_ne (by decide), List.getElem?_set_self (by omega)]
  · rw [List.getElem?_set_self (by rw [List.length_set]; omega)]
  · obtain ⟨g, m, kk, hbp, hg⟩ := hb
    exact ⟨g, m, kk, by rw [upd_ne hpf, upd_ne hpr]; exact hbp, hg⟩
  · rw [upd_ne hfr.symm, upd_same, rgV_upto]
    rfl
  · exact upd_same
  · have h1 : a ≠ r := fun z => by rw [z, hr0] at ea; cases ea
    have h2 : a ≠ f := fun z => by rw [z, hf1] at ea; cases ea
    rw [upd_ne h2, upd_ne h1]
    exact ea
  rintro i m τ H3 ⟨rs, fs, hik, rfl, t0, t1, t2, t3, tl, tb, tr, tf, pm, rl, fl, th⟩
  have sgH : ∀ {H4 : Hp}, (∀ a o, a ≠ p → H a = some o → H4 a = some o) → Same G H4 := fun h a o e => h a o (fun z => by rw [z, gp] at e; cases e) (sg _ _ e)
  have frn : H r = none := hr0
  by_cases hlt : i < many
  · refine .inr ⟨hlt, fun τ' H' => ∃ rs fs : List Nat, τ'[0]? = some (some (.ref p)) ∧ τ'[1]? = some (some (.int (many : Int))) ∧ τ'[2]? = some (some (.ref r)) ∧ τ'[3]? = some (some (.ref f)) ∧ 5 ≤ τ'.length ∧ Bg H' p (c + (i + 1)) ∧ H' r = some (.lst (vN rs)) ∧ H' f = some (.lst (vN fs)) ∧ (fs ++ rs).Perm (List.range many) ∧ rs.length = many - (i + 1) ∧ fs.length = i + 1 ∧ (∀ a o, a ≠ p → H a = some o → H' a = some o),
      fun τ' H' ⟨rs, fs, q⟩ => ⟨many - (i + 1), by omega, rs, fs, by omega, rfl, q⟩, fun x H' hy => ?_⟩
    obtain ⟨rfl, rfl⟩ := hy
    have u0 : ∀ v, (τ.set 4 v)[0]? = some (some (.ref p)) := fun v => by rw [List.getElem?_set_ne (by decide)]; exact t0
    have u1 : ∀ v, (τ.set 4 v)[1]? = some (some (.int (many : Int))) := fun v => by rw [List.getElem?_set_ne (by decide)]; exact t1
    have u2 : ∀ v, (τ.set 4 v)[2]? = some (some (.ref r)) := fun v => by rw [List.getElem?_set_ne (by decide)]; exact t2
    have u3 : ∀ v, (τ.set 4 v)[3]? = some (some (.ref f)) := fun v => by rw [List.getElem?_set_ne (by decide)]; exact t3
    have hlen : (vN rs).length = rs.length := by unfold vN; rw [List.length_map]
    refine ⟨.ref f, u3 _, .inl ⟨rfl, _, SqL.of tf⟩, .ref r, u2 _, .inl ⟨rfl, _, SqL.of tr⟩, .ref p, u0 _, .ref r, u2 _, r, vN rs, rfl, .inl (SqL.of tr), ?_⟩
    refine ⟨p, G, [nD rs.length], c + i, [.int (rs.length : Int)], by rw [hlen]; rfl, sgH th, gp, tb, by
      have : c + 5 ≤ cMax := hc
      show c + i + 1 ≤ cMax
      omega, .cons (.int _) .nil, ⟨rs.length, rfl, by omega, by omega⟩, fun v d G' H' po ex bg dv => ?_⟩
    obtain ⟨m2, j, e, rfl, hj⟩ := po
    injection e with e _
    rw [← nD_inj e] at hj
    cases dv
    have hr' : H' r = some (.lst (vN rs)) := ex.hh r _ (fun z => hpr z.symm) tr
    have hf' : H' f = some (.lst (vN fs)) := ex.hh f _ (fun z => hpf z.symm) tf
    have hy : (vN rs)[j]? = some (.int (rs[j] : Int)) := by unfold vN; rw [List.getElem?_map, List.getElem?_eq_getElem hj]; rfl
    refine ⟨r, vN rs, (j : Int), j, _, rfl, rfl, hr', by omega, by omega, (ixN_seq (ixN_nat (by rw [hlen]; exact hj))).1, hy, ?_⟩
    refine ⟨f, vN fs, _, rfl, rfl, by rw [upd_ne hfr]; exact hf', by unfold vN; rw [List.length_map, sizeLine_eq]; omega, ?_⟩
    refine ⟨rs.eraseIdx j, fs ++ [rs[j]], u0 _, u1 _, u2 _, u3 _, by rw [List.length_set]; exact tl, ?_, ?_, ?_, ?_, ?_, ?_, fun a o na ea => ?_⟩
    · obtain ⟨g, m, kk, hbp, hg⟩ := bg
      exact ⟨g, m, kk, by rw [upd_ne hpf, upd_ne hpr]; exact hbp, hg⟩
    · rw [upd_ne hfr.symm, upd_same]
      unfold vN
      rw [erase_map]
    · rw [upd_same]
      unfold vN
      rw [List.map_append]
      rfl
    · rw [List.append_assoc]
      exact (List.Perm.append_left fs (erase_perm rs j hj)).trans pm
    · rw [List.length_eraseIdx_of_lt hj]
      omega
    · rw [List.length_append, fl]
      rfl
    · have h1 : a ≠ r := fun z => by rw [z, frn] at ea; cases ea
      have h2 : a ≠ f := fun z => by rw [z, hf1] at ea; cases ea
      rw [upd_ne h2, upd_ne h1]
      exact ex.hh a o na (th a o na ea)
  · have ei : i = many := by omega
    subst ei
    have rs0 : rs = [] := List.eq_nil_of_length_eq_zero (by omega)
    subst rs0
    rw [List.append_nil] at pm
    refine .inl ⟨Nat.le_refl _, .ref f, t3, f, vN fs, rfl, SqL.of tf, fun l o hl0 oc od => ?_⟩
    have sgH3 := sgH th
    have old : ∀ a, H a ≠ none → H3 a ≠ none := fun a ha => by
      by_cases e : a = p
      · rw [e]; exact tb.ne
      · cases q : H a with
        | none => exact absurd q ha
        | some o => rw [th a o e q]; exact fun z => nomatch z
    have hpl : p ≠ l := fun z => tb.ne (by rw [z]; exact hl0)
    refine hret (.ref l) (ordD fs) (upd G l (.frz o (.tup (vN fs)))) _ ⟨i, fs, rfl, rfl, pm⟩ ⟨fun a o2 na ea => ?_, same_upd2 sgH3, fun a ha => ?_⟩ ?_ ?_
    · have : a ≠ l := fun z => by
        have := th a o2 na ea
        rw [z, hl0] at this
        cases this
      rw [upd_ne this]
      exact th a o2 na ea
    · rw [upd_ne (fun z => old a ha (by rw [z]; exact hl0))]
    · obtain ⟨g, m, kk, hbp, hg⟩ := tb.mono (show c + i ≤ c + 5 by omega)
      exact ⟨g, m, kk, by rw [upd_ne hpl]; exact hbp, hg⟩
    · exact .tup ⟨o, upd_same, oc, od⟩ (vN_dx _ fs)
end
end K42
/-! ## KBagF -/
namespace K42
open PySem PySem.Spec L2
open PyProof.Rows hiding St
/-! ### the script -/
section
variable {X : Cx} {e e2 a b : Expr} {ρ : Rho} {p pos : Pos}
theorem pv_lenS {ns : List Int} (ha : PV X e ρ (.scr X.K ns)) (hm : X.mg "len" = none) (hg : Gl X "len" := by rfl) (h1 : starEach [e] X.env = (false, eval e X.env) :: starEach [] X.env := by rfl) (h2 : (backTo pos (starEach [] X.env)).any (·.1) = false := by rfl) : PV X (.Call (.Name "len" p) [e] [] pos) ρ (.int (ns.length : Nat)) :=
  pv_callB call_len_seq hg hm boot_len' (pav_cons ha pav_nil h1) (fun vs G H Q sg z hd hq => by
    cases hd with
    | cons k1 k2 =>
      cases k2
      cases k1 with
      | scr m1 =>
        refine ⟨_, _, rfl, .inl (sg.seq m1), ?_⟩
        rw [List.length_map]
        exact hq _ G H (.refl sg) (.int _)) (by decide) (by decide) h1 h2
theorem cut_hi (xs : List V) (k : Nat) : cutV xs none (some (k : Int)) = xs.take k := by
  unfold cutV
  rw [HT.sIx_none, HT.sIx_nat, List.drop_zero, Nat.sub_zero]
  by_cases h : k ≤ xs.length
  · rw [Nat.min_eq_left h]
  · rw [Nat.min_eq_right (by omega), List.take_length, List.take_of_length_le (by omega)]
theorem pv_slS {ns : List Int} {k : Nat} {j : Nat} {p2 p3 : Pos} (ha : PV X a ρ (.scr X.K ns)) : PV X (.Subscript a (.Slice none (some (.Constant (.int (k : Int)) j p3)) none p2) pos) ρ (.list ((ns.take k).map Da.int)) :=
  PE.pv (pe_slice sl_list (pe_w a) po_none (po_some pe_int)) fun σ G H Q sg hl h1 hq => ha σ G H _ sg hl h1 fun v G1 H1 x1 d1 => by
    refine ⟨(k : Int), rfl, ?_⟩
    cases d1 with
    | scr m1 =>
      refine ⟨_, _, rfl, x1.gh.seq m1, fun q hq1 => hq _ _ _ (x1.trans (Ext.add x1.gh hq1)) (.lst upd_same ?_)⟩
      rw [cut_hi, ← List.map_take]
      exact DxAll.ints _ _
end
theorem raw_cons {X : Cx} {st : Stmt} {sts : List Stmt} {ρ : Rho} {ω : Own} {N : Rho → Own → Prop} {G0 H0 G H : Hp} {σ : St} {D : Ends} (s : SOk G0 H0 G H σ ρ ω) (h1 : S1 X st ρ ω N (fun _ => False)) (h2 : ∀ σ' G' H' ρ' ω', N ρ' ω' → SOk G0 H0 G' H' σ' ρ' ω' → tWSs X sts D σ' H') : tWSs X (st :: sts) D σ H :=
  fun pins s' I => (pss_cons (ps_w st) (pss_w sts)).run pins s' σ H D I (h1 G0 H0 G H σ _ s (fun σ' G' H' ρ' ω' n s' sg => h2 σ' G' H' ρ' ω' n s') (fun _ _ _ _ r => r.elim))
/-! ### the bag is made -/
def bagStep (q : Int × Int) (x : Int) : Int × Int := if 1000000000000000000 ≤ x then (q.1 * 47 + x - 1000000000000000000, q.2) else (q.1, (q.2 * 69621 + 2 * (if x < 0 then -x else x) + (if decide (x < 0) then 1 else 0)) % 2147483587)
def bagAt (ns : List Int) (k : Nat) : Int × Int := ((ns.take 61).take k).foldl bagStep (0, 12752 + 41 * (ns.length : Int))
theorem bag_ok {ns : List Int} (h : ns.length ≤ 63) : ∀ k, 0 ≤ (bagAt ns k).1 ∧ 0 ≤ (bagAt ns k).2 ∧ (bagAt ns k).2 < 2147483648 := by
  intro k
  unfold bagAt
  generalize (ns.take 61).take k = xs
  have : ∀ (xs : List Int) (q : Int × Int), 0 ≤ q.1 ∧ 0 ≤ q.2 ∧ q.2 < 2147483648 → 0 ≤ (xs.foldl bagStep q).1 ∧ 0 ≤ (xs.foldl bagStep q).2 ∧ (xs.foldl bagStep q).2 < 2147483648 := by
    intro xs
    induction xs with
    | nil => intro q h; exact h
    | cons x xs ih =>
      intro q ⟨h1, h2, h3⟩
      rw [List.foldl_cons]
      refine ih _ ?_
      unfold bagStep
      split
      · refine ⟨?_, h2, h3⟩
        show 0 ≤ q.1 * 47 + x - 1000000000000000000
        omega
      · refine ⟨h1, ?_, ?_⟩
        · exact Int.emod_nonneg _ (by decide)
        · have := Int.emod_lt_of_pos (q.2 * 69621 + 2 * (if x < 0 then -x else x) + (if decide (x < 0) then 1 else 0)) (show (0 : Int) < 2147483587 by decide)
          show _ % (2147483587 : Int) < 2147483648
          omega
  exact this xs _ ⟨Int.le_refl 0, by show (0 : Int) ≤ 12752 + 41 * (ns.length : Int); omega, by show 12752 + 41 * (ns.length : Int) < 2147483648; omega⟩
def spBag (K : PySem.W.Frag) : Sp := fun vs H Q _ => ∃ (a : Addr) (ns : List Int), vs = [.ref a] ∧ SqL K H a (ns.map V.int) ∧ ns.length ≤ 63 ∧ ∀ p H', Same H H' → H p = none → Bg H' p 0 → Q (.ref p) H'
abbrev nBag : List Str := ["_law_script", "_law_great", "_law_mixed_here", "_law_cell"]
theorem scBag : FnScope nBag ["_law_script"] (defScope sBag) := ⟨rfl, rfl, rfl, by decide +kernel, rfl, by decide +kernel, by decide +kernel⟩
section
variable {P : Program} {w : World} {K : PySem.W.Frag} {mg : Str → Option Value} {base : Heap} {k : Nat}
theorem ok_bag {f : Addr} {fd : FuncData} (F : Fun K "_law_bag" "_law_bag" sBag f fd) (B : Bi mg) : FnOk P w K mg base CX0 (k + 1) f fd ["_law_script"] (spBag K) := by
  refine F.ok scBag (fun vs H Q E h => ?_) (fun cdv A outer s H vs Q E hr h => ?_)
  · obtain ⟨a, ns, rfl, _⟩ := h
    rfl
  obtain ⟨a, ns, rfl, hS, hlen, q⟩ := h
  refine ⟨_, pss_w _, ?_⟩
  have s0 : SOk H H H H (L2.start nBag [.ref a]) [some (.scr K ns), none, none, none] none := ⟨.refl (Same.refl H), Nat.le_refl 4, fun i d hi => ?_, fun _ _ z => nomatch z⟩
  · have B1 := bag_ok hlen
    refine raw_cons s0 (s1_par (i := 1) (j := 2) (da := .int 0) (db := .int (12752 + 41 * (ns.length : Int))) rfl scBag.nd rfl rfl (by decide) pv_int (pv_addI pv_int (pv_mulI (.inl (by decide)) pv_int (pv_lenS (pvn 0 rfl) B.le))) (fun _ z => nomatch z) (fun _ z => nomatch z)) fun σ1 G1 H1 ρ1 ω1 n1 s1 => ?_
    obtain ⟨rfl, rfl⟩ := n1
    refine raw_cons s1 (s1_forX (i := 3) (xs := ns.take 61) (en := Da.int) (fun _ => True) (fun k => [some (.scr K ns), some (.int (bagAt ns k).1), some (.int (bagAt ns k).2), none]) (fun _ => none) rfl scBag.nd rfl (piv_list (pv_slS (k := 61) (pvn 0 rfl))) PassesOwn.never
      (RLe.refl _) (fun _ => rfl) rfl trivial (fun _ _ _ z => nomatch z) fun i x hx _ => ?_) fun σ2 G2 H2 ρ2 ω2 n2 s2 => ?_
    · have st : bagAt ns (i + 1) = bagStep (bagAt ns i) x := by
        unfold bagAt
        rw [List.take_add_one, hx, Option.toList_some, List.foldl_append]
        rfl
      obtain ⟨b1, b2, b3⟩ := B1 i
      refine sj_one (s1_if (b := decide ((1000000000000000000 : Int) ≤ x)) (ptv_geI (pvn 3 rfl) (pv_powI (i := 10) (j := 18) (by unfold CPow; decide) pv_int pv_int)) (fun hb => ?_) fun hb => ?_)
      · have hb := of_decide_eq_true hb
        refine sj_is (s1_set (i := 1) scBag.nd rfl (pv_subI (pv_addI (pv_mulI (.inr (by decide)) (pvn 1 rfl) pv_int) (pvn 3 rfl)) (pv_powI (i := 10) (j := 18) (by unfold CPow; decide) pv_int pv_int)) (fun _ z => nomatch z)) (sj_nil ?_)
        refine ⟨trivial, ?_, rfl, rfl⟩
        rw [st]
        unfold bagStep
        rw [if_pos hb]
        exact rl_same (rl_same (rl_same (rl_none rl_nil)))
      · have hb := of_decide_eq_false hb
        refine sj_is (s1_set (i := 2) scBag.nd rfl (pv_modI (by decide) (pv_intI (pv_addI (pv_addI (pv_mulI (.inr (by decide)) (pvn 2 rfl) pv_int) (pv_mulI (.inl (by decide)) pv_int (pv_absI (pvn 3 rfl) B.ab))) (pv_intB (pv_ltI (pvn 3 rfl) pv_int) B.it)) B.it) pv_int) (fun _ z => nomatch z)) (sj_nil ?_)
        refine ⟨trivial, ?_, rfl, rfl⟩
        rw [st]
        unfold bagStep
        rw [if_neg hb]
        exact rl_same (rl_same (rl_same (rl_none rl_nil)))
    · obtain ⟨_, rfl, rfl⟩ := n2
      generalize hK : (ns.take 61).length = kk at s2
      obtain ⟨b1, b2, b3⟩ := B1 kk
      obtain ⟨v1, e1, d1⟩ := s2.env 1 (.int (bagAt ns kk).1) rfl
      obtain ⟨v2, e2, d2⟩ := s2.env 2 (.int (bagAt ns kk).2) rfl
      cases d1
      cases d2
      intro pins s' I
      refine (pss_one (ps_ret (pe_lst (pa_cons (pv 1) (pa_cons (pv 2) (pa_cons pe_int pa_nil)))))).run pins s' σ2 H2 _ I ⟨_, e1, _, e2, by rw [sizeLine_eq]; exact Nat.le_of_ble_eq_true rfl, fun p hp => ?_⟩
      exact q p _ (s2.ext.hh.trans (same_upd hp)) (s2.ext.hh.free hp) ⟨_, _, 0, upd_same, b1, b2, b3, Int.le_refl 0, Int.le_refl 0⟩
  · cases i with
    | zero =>
      have e : d = .scr K ns := (Option.some.inj (Option.some.inj hi)).symm
      subst e
      exact ⟨.ref a, rfl, .scr hS⟩
    | succ i =>
      cases i with
      | zero => cases hi
      | succ i =>
        cases i with
        | zero => cases hi
        | succ i =>
          cases i with
          | zero => cases hi
          | succ i => cases hi
end
end K42
/-! ## KLawA -/
namespace K42
open PySem PySem.Spec L2
open PyProof.Rows hiding St
abbrev sLaw : Stmt := topS 50
/-- the bag is the owned list -/
def BagO (i c : Nat) (ω : Own) : Prop := ∃ g m k : Int, ω = some (i, [.int g, .int m, .int k]) ∧ 0 ≤ g ∧ 0 ≤ m ∧ m < 2147483648 ∧ 0 ≤ k ∧ k ≤ (c : Int)
theorem BagO.mono {i c d : Nat} {ω : Own} (h : BagO i c ω) (l : c ≤ d) : BagO i d ω := by
  obtain ⟨g, m, k, h1, h2, h3, h4, h5, h6⟩ := h
  exact ⟨g, m, k, h1, h2, h3, h4, h5, by omega⟩
theorem BagO.not {i c j : Nat} {ω : Own} (h : BagO i c ω) (n : j ≠ i) : notAt ω j := by
  obtain ⟨g, m, k, rfl, _⟩ := h
  intro ds e
  injection e with e
  injection e with e _
  exact n e.symm
theorem SOk.bag {G0 H0 G H : Hp} {σ : St} {ρ : Rho} {ω : Own} {i c : Nat} (s : SOk G0 H0 G H σ ρ ω) (h : BagO i c ω) : ∃ p, σ[i]? = some (some (.ref p)) ∧ Bg H p c ∧ G p = none ∧ H0 p = none := by
  obtain ⟨g, m, k, rfl, h2⟩ := h
  obtain ⟨p, vs, k1, k2, k3, k4, k5⟩ := s.own i _ rfl
  cases k3 with
  | cons a1 k3 =>
    cases k3 with
    | cons a2 k3 =>
      cases k3 with
      | cons a3 k3 =>
        cases k3
        cases a1
        cases a2
        cases a3
        exact ⟨p, k1, ⟨g, m, k, k2, h2⟩, k4, k5⟩
theorem SOk.drawn {G0 H0 G H G' H' : Hp} {σ : St} {ρ : Rho} {ω : Own} {i c n : Nat} {p : Addr} (s : SOk G0 H0 G H σ ρ ω) (hp : σ[i]? = some (some (.ref p))) (h0 : H0 p = none) (hb : Bg H p c) (gp : G p = none) (x : ExtB p G H G' H') (b : Bg H' p n) : ∃ ω', BagO i n ω' ∧ SOk G0 H0 G' H' σ ρ ω' := by
  obtain ⟨g, m, k, h1, h2⟩ := b
  refine ⟨some (i, [.int g, .int m, .int k]), ⟨g, m, k, rfl, h2⟩, ⟨⟨fun a o e => ?_, x.gh, fun a ha => ?_⟩, s.len, s.env.mono (x.gg s.ext.gh), fun j ds e => ?_⟩⟩
  · exact x.hh a o (fun z => by rw [z, h0] at e; cases e) (s.ext.hh _ _ e)
  · have : H a ≠ none := fun z => ha (s.ext.hh.free z)
    rw [x.new a this, s.ext.new a ha]
  · cases e
    exact ⟨p, _, hp, h1, .cons (.int _) (.cons (.int _) (.cons (.int _) .nil)), x.gp hb gp, h0⟩
section
variable {X : Cx} {e e2 a b : Expr} {ρ : Rho} {p pos : Pos} {ω : Own} {N : Rho → Own → Prop} {R : Da → Prop} {n m c : Nat} {F F2 : Da → Prop} {i j l : Nat}
theorem s1b_set {x : Str} {p2 : Pos} (hn : X.N.Nodup) (hj : X.N[j]? = some x) (hij : j ≠ i) (h : PB X i e ρ n F) (hω : BagO i c ω) (hc : c + n ≤ cMax) (hx : Loc X.env.scope x := by first | exact Or.inl rfl | exact Or.inr rfl) (hs : swapsWith e (some (.Name x p2)) pos.line X.env = pure false := by rfl)
    (hf : X.fn x = true ∨ X.env.scope.names.lookup x = some .local := by first | exact .inl rfl | exact .inr rfl | assumption) : S1 X (.Assign [.Name x p2] e pos) ρ ω (fun ρ' ω' => BagO i (c + n) ω' ∧ ∃ d, F d ∧ ρ' = ρ.set j (some d)) R :=
  PS.s1 (ps_set hn hj hx (pe_w e) hs hf) fun G0 H0 G H σ D s hq hr => by
    obtain ⟨q, k1, k2, k3, k4⟩ := s.bag hω
    refine h q c σ G H _ k1 s.ext.gh s.len s.env k3 k2 hc fun v d G' H' f x b dv => ?_
    obtain ⟨ω', w1, s'⟩ := s.drawn k1 k4 k2 k3 x b
    exact hq _ G' H' _ ω' ⟨w1, d, f, rfl⟩ (s'.set (w1.not hij) dv) (x.gg s.ext.gh)
theorem s1b_par {x y : Str} {px py pt : Pos} {kt k2 pt2} (hc : X.calm = true) (hN : X.N.Nodup) (hj : X.N[j]? = some x) (hl : X.N[l]? = some y) (hjl : j ≠ l) (hji : j ≠ i) (hli : l ≠ i) (h : PB X i a ρ n F) (h' : PB X i b ρ m F2) (hω : BagO i c ω) (hcc : c + (n + (m + 0)) ≤ cMax)
    (hx : X.env.scope.names.lookup x = some .local := by rfl) (hy : X.env.scope.names.lookup y = some .local := by rfl)
    (hw : swappedStores [.Tuple [.Name x px, .Name y py] kt pt] (.Tuple [a, b] k2 pt2) X.env = pure (some [x, y]) := by rfl)
    (hs : swapsWithSole [.Tuple [.Name x px, .Name y py] kt pt] (.Tuple [a, b] k2 pt2) pos.line X.env = pure false := by rfl)
    (h1 : starEach [a, b] X.env = (false, eval a X.env) :: starEach [b] X.env := by rfl) (h2 : starEach [b] X.env = (false, eval b X.env) :: starEach [] X.env := by rfl) :
    S1 X (.Assign [.Tuple [.Name x px, .Name y py] kt pt] (.Tuple [a, b] k2 pt2) pos) ρ ω (fun ρ' ω' => BagO i (c + (n + (m + 0))) ω' ∧ ∃ d1 d2, F d1 ∧ F2 d2 ∧ ρ' = (ρ.set j (some d1)).set l (some d2)) R :=
  PS.s1 (ps_par hc hN hj hl hjl hx hy (pa_w [a, b]) hw hs) fun G0 H0 G H σ D s hq hr => by
    obtain ⟨q, k1, k2, k3, k4⟩ := s.bag hω
    refine (pba_cons h (pba_cons h' pba_nil h2) h1) q c σ G H _ k1 s.ext.gh s.len s.env k3 k2 hcc fun vs ds G' H' f x b dv => ?_
    obtain ⟨d1, r1, rfl, f1, d2, r2, rfl, f2, rfl⟩ := f
    obtain ⟨ω', w1, s'⟩ := s.drawn k1 k4 k2 k3 x b
    cases dv with
    | cons a1 dv =>
      cases dv with
      | cons a2 dv =>
        cases dv
        exact ⟨_, _, rfl, hq _ G' H' _ ω' ⟨w1, d1, d2, f1, f2, rfl⟩ ((s'.set (w1.not hji) a1).set (w1.not hli) a2) (x.gg s.ext.gh)⟩
/-- the bag is made -/
theorem s1_bag {k : Nat} {f : Addr} {fd : FuncData} {ps : List Str} {x y : Str} {p1 p2 p3 : Pos} {ns : List Int} (C : FnOk X.prog X.w X.K X.mg X.base CX0 k f fd ps (spBag X.K)) (hr : Room k X.A) (hm : X.mg y = some (.ref f)) (hk : PySem.W.keepIn X.K (.ref f) = true) (hb : Binds X.K fd ps []) (hn : X.N.Nodup) (hi : X.N[i]? = some x) (hir : i < ρ.length)
    (ha : PV X e ρ (.scr X.K ns)) (hz : ns.length ≤ 63) (hg : Gl X y := by rfl) (hdb : (y == ("__debug__" : Str)) = false := by decide) (h1 : starEach [e] X.env = (false, eval e X.env) :: starEach [] X.env := by rfl) (h2 : (backTo p3 (starEach [] X.env)).any (·.1) = false := by rfl)
    (hx : Loc X.env.scope x := by first | exact Or.inl rfl | exact Or.inr rfl) (hs : swapsWith (.Call (.Name y p1) [e] [] p3) (some (.Name x p2)) pos.line X.env = pure false := by rfl)
    (hf : X.fn x = true ∨ X.env.scope.names.lookup x = some .local := by first | exact .inl rfl | exact .inr rfl | assumption) : S1 X (.Assign [.Name x p2] (.Call (.Name y p1) [e] [] p3) pos) ρ none (fun ρ' ω' => BagO i 0 ω' ∧ ρ' = ρ.set i none) R :=
  PS.s1 (ps_set hn hi hx (pe_call C hr hg hm hk hb .nil pass0 (pa_cons (pe_w e) pa_nil h1) hdb h1 h2) hs hf) fun G0 H0 G H σ D s hq hr => ha σ G H _ s.ext.gh s.len s.env fun v G1 H1 x1 d1 => by
    cases d1 with
    | scr m1 =>
      refine ⟨_, ns, rfl, x1.gh.seq m1, hz, fun q H2 sh hq2 bg => ?_⟩
      obtain ⟨g, m, k, b1, b2⟩ := bg
      have s1 := s.step x1
      have x2 : Ext G1 H1 G1 H2 := ⟨sh, x1.gh.trans sh, fun _ _ => rfl⟩
      have s2 := s1.owns (i := i) (p := q) (vs := [.int g, .int m, .int k]) (ds := [.int g, .int m, .int k]) (Nat.lt_of_lt_of_le hir s1.len) x2 hq2 (x1.gh.free hq2) b1 (.cons (.int _) (.cons (.int _) (.cons (.int _) .nil)))
      exact hq _ G1 H2 _ _ ⟨⟨g, m, k, rfl, b2⟩, rfl⟩ s2 (x1.gg s.ext.gh)
/-- for x in iter: body, what is owned is not fixed -/
theorem s1_forW {α : Type} {x : Str} {p1 : Pos} {iter : Expr} {body : List Stmt} {xs : List α} {en : α → Da} {i : Nat} (W : Nat → Own → Prop) (ρs : Nat → Rho) (hc : X.calm = true) (hn : X.N.Nodup) (hx : X.N[i]? = some x) (hi : PIV X (.Name x p1) iter ρ (xs.map en)) (hp : PassesOwn (model X.prog X.w) X.A X.env X.xe)
    (h0 : RLe (ρs 0) ρ) (hlen : ∀ k, (ρs k).length = ρ.length) (hW : W 0 ω) (hown : ∀ k ω j es, W k ω → ω = some (j, es) → j ≠ i)
    (hb : ∀ k a ω, xs[k]? = some a → W k ω → SJ X body ((ρs k).set i (some (en a))) ω (fun ρ' ω' => W (k + 1) ω' ∧ RLe (ρs (k + 1)) ρ' ∧ ρ'.length = ρ.length) R)
    (hl : Loc X.env.scope x := by first | exact Or.inl rfl | exact Or.inr rfl) (hf : X.fn x = true ∨ X.env.scope.names.lookup x = some .local := by first | exact .inl rfl | exact .inr rfl | assumption) (hs : ∀ x, foldedSetIterable iter X.env x = pure x := by intro _; rfl) :
    S1 X (.For (.Name x p1) iter body [] pos) ρ ω (fun ρ' ω' => W xs.length ω' ∧ ρ' = ρs xs.length) R :=
  PS.s1 (ps_for hp hc (pi_w (.Name x p1) iter) (pg_name hn hx hl hf) (pss_w body) hs) fun G0 H0 G H σ D s hn hr => hi σ G H _ s.ext.gh s.len s.env fun J G1 H1 x1 wk => by
    refine ⟨fun k m σ2 H2 => k ≤ xs.length ∧ m = xs.length - k ∧ ∃ G2 ω2, W k ω2 ∧ SOk G0 H0 G2 H2 σ2 (ρs k) ω2 ∧ Same G1 G2, ⟨xs.length, Nat.zero_le _, rfl, G1, ω, hW, (s.step x1).le h0 (hlen 0), Same.refl G1⟩, ?_⟩
    rintro k m σ2 H2 ⟨hk, rfl, G2, ω2, w2, s2, g2⟩
    by_cases hlt2 : k < xs.length
    · refine .inr ⟨wk.go G2 H2 g2 s2.ext.gh k (by rw [List.length_map]; exact hlt2), fun σ' H' => ∃ G3 ω3, W (k + 1) ω3 ∧ SOk G0 H0 G3 H' σ' (ρs (k + 1)) ω3 ∧ Same G1 G3, fun σ' H' hh => ⟨xs.length - (k + 1), by omega, hlt2, rfl, hh⟩, fun x H' hy => ?_⟩
      have ha : xs[k]? = some xs[k] := List.getElem?_eq_getElem hlt2
      obtain ⟨G3, x3, dx⟩ := wk.yld G2 H2 g2 s2.ext.gh k (en xs[k]) x H' (by rw [List.getElem?_map, ha]; rfl) hy
      have s3 := s2.step x3
      have s4 : SOk G0 H0 G3 H' (σ2.set i (some x)) ((ρs k).set i (some (en xs[k]))) ω2 := s3.set (fun ds e => hown k ω2 i ds w2 e rfl) dx
      refine hb k xs[k] ω2 ha w2 G0 H0 G3 H' _ _ s4 (fun σ5 G5 H5 ρ5 ω5 n5 s5 g5 => ?_) (fun v G5 H5 d5 r5 x5 dx5 => hr v G5 H5 d5 r5 x5 dx5)
      obtain ⟨p1, p2, p3⟩ := n5
      exact ⟨G5, ω5, p1, s5.le p2 (by rw [hlen, p3]), g2.trans ((x3.gg s2.ext.gh).trans g5)⟩
    · have ei : k = xs.length := by omega
      subst ei
      have st := wk.stop G2 H2 g2 s2.ext.gh
      rw [List.length_map] at st
      exact .inl ⟨st, hn σ2 G2 H2 _ _ ⟨w2, rfl⟩ s2 ((x1.gg s.ext.gh).trans g2)⟩
end
/-! ### what the mathematics owes -/
/-- a way as the law makes it -/
structure IsWay (w : Way) : Prop where
  h1 : 1 ≤ w.h
  h4 : w.h ≤ 4
  t2 : 2 ≤ w.tabs.length
  t3 : w.tabs.length ≤ 3
  tab : ∃ m, 1 ≤ m ∧ m ≤ 6 ∧ ∀ t ∈ w.tabs, IsTab w.h m t
/-- another one of the same shape -/
structure IsStr (w s : Way) : Prop where
  h : s.h = w.h
  odd : s.odd = w.odd
  len : s.tabs.length = w.tabs.length
  tab : ∀ t ∈ s.tabs, IsTab w.h (w.tabs.getD 0 []).length t
structure BesOk (a : Way) : Prop where
  ne : a.tabs ≠ []
  ok : ∀ t ∈ a.tabs, t ≠ [] ∧ t.length ≤ 100
structure SlimOk (a : Way) : Prop where
  h : a.h ≤ 5
  two : 2 ≤ a.tabs.length
  few : a.tabs.length ≤ 100
  ok : ∀ t ∈ a.tabs, t.length ≤ 100
/-- two ways that must be alike by the order o -/
structure Alike (o : List Nat) (a b : Way) : Prop where
  oa : WOk a
  ob : WOk b
  ff : firstForm a = firstForm b
  ex : exch a o = b
structure TurnOk (w : Way) (o m : List Nat) : Prop where
  ok : WOk w
  ok1 : WOk (exch w o)
  ok3 : WOk (exch (exch w o) m)
  like : ∃ f a l, likeness w (exch w o) = some f ∧ likeness (exch w o) (exch (exch w o) m) = some a ∧ ltG o f = false ∧ exch w f = exch w o ∧ (∀ i ∈ a, i < f.length) ∧ exch w (a.map fun i => f.getD i 0) = exch (exch w o) m ∧ likeness w (exch (exch w o) m) = some l ∧ ltG (a.map fun i => f.getD i 0) l = false
  ff : firstForm w = firstForm (exch (exch w o) m)
  fl : (likeness w (firstForm w)).isSome = true
  seen : Seen w o
  eqr : EqR w
  bes1 : BesOk w
  bes2 : BesOk (exch w o)
  bes : Alike o (beside w w) (beside (exch w o) (exch w o))
  ton1 : 2 ≤ w.tabs.length
  ton2 : 2 ≤ (exch w o).tabs.length
  ton : Alike o (toned w [1, 0]) (toned (exch w o) [1, 0])
  slim1 : SlimOk w
  slim2 : SlimOk (exch w o)
  slim : Alike o (slim w) (slim (exch w o))
structure StrOk (w s : Way) : Prop where
  ok : WOk s
  like : (likeness w s).isSome = decide (firstForm w = firstForm s)
end K42
/-! ## KLawB -/
namespace K42
open PySem PySem.Spec L2
open PyProof.Rows hiding St
def spLaw (K : PySem.W.Frag) : Sp := fun vs H Q _ => ∃ (a : Addr) (ns : List Int), vs = [.ref a] ∧ SqL K H a (ns.map V.int) ∧ ns.length ≤ 63 ∧ ∀ H', Q (.bl true) H'
abbrev nLaw : List Str := ["_law_script", "_law_bag_here", "_law_turn", "_law_way_here", "_law_order", "_law_more", "_law_other", "_law_third", "_law_found", "_law_again", "_law_behind", "_law_strange", "_law_one", "_law_two", "_law_at", "_law_table_here"]
theorem scLaw : FnScope nLaw ["_law_script"] (defScope sLaw) := ⟨rfl, rfl, rfl, by decide +kernel, rfl, by decide +kernel, by decide +kernel⟩
theorem eqv_bool (a b : Bool) : PyData.eqv (er (.bool a)) (er (.bool b)) = decide (a = b) := by
  cases a <;> cases b <;> decide +kernel
theorem notNone_opt (x : Option Grp) : (!isNone (optD x)) = x.isSome := by cases x <;> rfl
theorem bes_split {a : Way} (h : BesOk a) : ∃ t ts, a.tabs = t :: ts := by
  cases q : a.tabs with
  | nil => exact absurd q h.ne
  | cons t ts => exact ⟨t, ts, rfl⟩
theorem isStr_of {w : Way} {ts : List Tab} (h1 : ts.length = w.tabs.length) (h2 : ∀ x ∈ ts, IsTab w.h (w.tabs.getD 0 []).length x) : IsStr w ⟨w.h, w.odd, ts⟩ := ⟨rfl, rfl, h1, h2⟩
section
variable {P : Program} {w : World} {K : PySem.W.Frag} {mg : Str → Option Value} {base : Heap} {k : Nat}
theorem ok_law {f : Addr} {fd : FuncData} (F : Fun K "law" "law" sLaw f fd) (B : Bi mg)
    (hturn : ∀ w o m, IsWay w → o.Perm (List.range w.h) → m.Perm (List.range w.h) → TurnOk w o m) (hstr : ∀ w s, IsWay w → IsStr w s → StrOk w s)
    {fb : Addr} {fdb : FuncData} (Cb : FnOk P w K mg base CX0 k fb fdb ["_law_script"] (spBag K)) (mb : mg "_law_bag" = some (.ref fb)) (kb : PySem.W.keepIn K (.ref fb) = true) (bb : Binds K fdb ["_law_script"] [])
    (Cd : CalB P w K mg base k "_law_draw" ["_law_bag_here", "_law_many"] preDraw (fun _ => 1) postDraw) (Cw : CalB P w K mg base k "_law_way" ["_law_bag_here", "_law_holders", "_law_tones", "_law_many"] preWay (fun _ => 2031) postWay)
    (Cm : CalB P w K mg base k "_law_mixed" ["_law_bag_here", "_law_many"] preMixed (fun _ => 5) postMixed) (Ct : CalB P w K mg base k "_law_table" ["_law_bag_here", "_law_holders", "_law_many"] preTable (fun _ => 203) postTable)
    (cx : Cal P w K mg base k "exchanged" ["way", "order"] fExch) (cl : Cal P w K mg base k "likeness" ["one", "other"] fLikeness) (cf : Cal P w K mg base k "first_form" ["way"] fFirstForm)
    (cs : Cal P w K mg base k "_law_seen_right" ["_law_way_here", "_law_order"] fSeen) (ce : Cal P w K mg base k "_law_equals_right" ["_law_way_here"] fEqR)
    (cbe : Cal P w K mg base k "beside" ["one", "other"] fBeside) (cto : Cal P w K mg base k "toned" ["way", "tones"] fToned) (csl : Cal P w K mg base k "slim" ["way"] fSlim) :
    FnOk P w K mg base CX0 (k + 1) f fd ["_law_script"] (spLaw K) := by
  refine F.ok scLaw (fun vs H Q E h => ?_) (fun cdv A outer s H vs Q E hr h => ?_)
  · obtain ⟨a, ns, rfl, _⟩ := h
    rfl
  obtain ⟨a, ns, rfl, hS, hlen, q⟩ := h
  have hu := Room.u70 hr
  let ρ0 : Rho := some (.scr K ns) :: List.replicate 15 none
  have e0 : EOk H (L2.start nLaw [.ref a]) ρ0 := fun i d hi => by
    cases i with
    | zero =>
      have e : d = .scr K ns := (Option.some.inj (Option.some.inj hi)).symm
      subst e
      exact ⟨.ref a, rfl, .scr hS⟩
    | succ i =>
      have hi : (List.replicate 15 (none : Option Da))[i]? = some (some d) := hi
      rw [List.getElem?_replicate] at hi
      split at hi <;> cases hi
  have s0 : SOk H H H H (L2.start nLaw [.ref a]) ρ0 none := ⟨.refl (Same.refl H), Nat.le_refl 16, e0, fun _ _ z => nomatch z⟩
  refine ⟨_, pss_w _, ?_⟩
  suffices body : SJ (cxOf CX0 P w K mg base nLaw "law" (defScope sLaw) f cdv A outer s H E).nox (defBody sLaw) ρ0 none (fun _ _ => False) (fun d => d = .bool true) from
    body H H H H _ _ s0 (fun _ _ _ _ _ n => n.elim) (fun v G' H' d r x dx => by
      have r : d = .bool true := r
      subst r
      cases dx
      exact q H')
  refine sj_cons (s1_bag (i := 1) Cb hr mb kb bb scLaw.nd rfl (Nat.le_of_ble_eq_true rfl) (pvn 0 rfl) hlen) fun ρ1 ω1 n1 => ?_
  obtain ⟨hω, rfl⟩ := n1
  refine sj_cons (s1_forW (i := 2) (xs := List.range 5) (en := nD) (fun k ω => BagO 1 (k * 5000) ω) (fun _ => ρ0) rfl scLaw.nd rfl (upto_nD 5 ▸ piv_range (n := 5) pv_int (by decide) rfl B.ra) PassesOwn.never
    (RLe.refl _) (fun _ => rfl) (hω.mono (by decide)) (fun k ω j es h e => by
      obtain ⟨_, _, _, rfl, _⟩ := h
      cases e
      decide) fun i t ω ht hω => ?_) fun ρ2 ω2 n2 => ?_
  · have hi5 : i < 5 := by
      have := (List.getElem?_eq_some_iff.mp ht).1
      rw [List.length_range] at this
      exact this
    have hcm : ∀ n, n ≤ 900000 → i * 5000 + n ≤ cMax := fun n hn => by
      show i * 5000 + n ≤ 1000000
      omega
    -- the way
    refine sj_cons (s1b_set (i := 1) (j := 3) (n := 2034) (c := i * 5000) (F := fun d => ∃ w, d = wayD w ∧ IsWay w) scLaw.nd rfl (by decide) (PB.imp (n := 3 + 2031) (pb_c (m := 3) (N := 2031) (Fs := fun ds => ∃ h t m : Nat, ds = [nD h, nD t, nD m] ∧ (1 ≤ h ∧ h ≤ 4) ∧ (2 ≤ t ∧ t ≤ 3) ∧ (1 ≤ m ∧ m ≤ 6)) Cw hr rfl
      (PBA.imp (n := 1 + (1 + (1 + 0))) (pba_cons (n := 1) (pb_addI (P := fun k => ∃ j : Nat, k = (j : Int) ∧ j < 4) pv_int (PB.imp (n := 0 + 1) (pb_c (m := 0) (N := 1) (Fs := fun ds => ds = [nD 4]) Cd hr rfl (PBA.imp (n := 0 + 0) (pba_cons (pb_of pv_int) pba_nil) (fun ds q => by
          obtain ⟨d, r, rfl, rfl, rfl⟩ := q
          rfl) (Nat.le_refl 0)) (fun ds q => ⟨⟨4, q, by decide, by decide⟩, Nat.le_refl 1⟩)) (fun d q => by
          obtain ⟨ds, rfl, m, j, e, rfl, hj⟩ := q
          injection e with e _
          rw [← nD_inj e] at hj
          exact ⟨_, rfl, j, rfl, hj⟩) (Nat.le_refl 1)))
        (pba_cons (n := 1) (pb_addI (P := fun k => ∃ j : Nat, k = (j : Int) ∧ j < 2) pv_int (PB.imp (n := 0 + 1) (pb_c (m := 0) (N := 1) (Fs := fun ds => ds = [nD 2]) Cd hr rfl (PBA.imp (n := 0 + 0) (pba_cons (pb_of pv_int) pba_nil) (fun ds q => by
          obtain ⟨d, r, rfl, rfl, rfl⟩ := q
          rfl) (Nat.le_refl 0)) (fun ds q => ⟨⟨2, q, by decide, by decide⟩, Nat.le_refl 1⟩)) (fun d q => by
          obtain ⟨ds, rfl, m, j, e, rfl, hj⟩ := q
          injection e with e _
          rw [← nD_inj e] at hj
          exact ⟨_, rfl, j, rfl, hj⟩) (Nat.le_refl 1)))
        (pba_cons (n := 1) (pb_addI (P := fun k => ∃ j : Nat, k = (j : Int) ∧ j < 6) pv_int (PB.imp (n := 0 + 1) (pb_c (m := 0) (N := 1) (Fs := fun ds => ds = [nD 6]) Cd hr rfl (PBA.imp (n := 0 + 0) (pba_cons (pb_of pv_int) pba_nil) (fun ds q => by
          obtain ⟨d, r, rfl, rfl, rfl⟩ := q
          rfl) (Nat.le_refl 0)) (fun ds q => ⟨⟨6, q, by decide, by decide⟩, Nat.le_refl 1⟩)) (fun d q => by
          obtain ⟨ds, rfl, m, j, e, rfl, hj⟩ := q
          injection e with e _
          rw [← nD_inj e] at hj
          exact ⟨_, rfl, j, rfl, hj⟩) (Nat.le_refl 1))) pba_nil))) (fun ds q => by
        obtain ⟨d1, r1, rfl, ⟨k1, rfl, j1, rfl, q1⟩, d2, r2, rfl, ⟨k2, rfl, j2, rfl, q2⟩, d3, r3, rfl, ⟨k3, rfl, j3, rfl, q3⟩, rfl⟩ := q
        exact ⟨1 + j1, 2 + j2, 1 + j3, by unfold nD; rw [Int.natCast_add, Int.natCast_add, Int.natCast_add]; rfl, ⟨by omega, by omega⟩, ⟨by omega, by omega⟩, ⟨by omega, by omega⟩⟩) (Nat.le_refl 3)) (fun ds q => by
        obtain ⟨h, t, m, e, q1, q2, q3⟩ := q
        exact ⟨⟨h, t, m, e, by omega, by omega, by omega⟩, Nat.le_refl 2031⟩)) (fun d q => by
      obtain ⟨ds, ⟨h, t, m, rfl, q1, q2, q3⟩, h2, t2, m2, w, e, rfl, e1, e2, e3⟩ := q
      injection e with a1 e
      injection e with a2 e
      injection e with a3 _
      rw [← nD_inj a1] at e1 e3
      rw [← nD_inj a2] at e2
      rw [← nD_inj a3] at e3
      exact ⟨w, rfl, ⟨by omega, by omega, by omega, by omega, m, q3.1, q3.2, by rw [e1]; exact e3⟩⟩) (Nat.le_refl 2034)) hω (hcm _ (by decide))) fun ρ3 ω3 n3 => ?_
    clear hω ω
    obtain ⟨hω, d, ⟨w, rfl, hw⟩, rfl⟩ := n3
    -- the orders
    refine sj_cons (s1b_par (i := 1) (j := 4) (l := 5) (n := 5) (m := 5) (F := fun d => ∃ o, d = ordD o ∧ o.Perm (List.range w.h)) (F2 := fun d => ∃ o, d = ordD o ∧ o.Perm (List.range w.h)) rfl scLaw.nd rfl rfl (by decide) (by decide) (by decide)
      (PB.imp (n := 0 + 5) (pb_c (m := 0) (N := 5) (Fs := fun ds => ds = [nD w.h]) Cm hr rfl (PBA.imp (n := 0 + 0) (pba_cons (pb_of (pv_ixT (d := nD w.h) (kd := false) (ds := [nD w.h, modeD w.odd, tabsD w.tabs]) (pvn 3 rfl) (pv_int (i := 0)) (j := 0) rfl rfl)) pba_nil) (fun ds q => by
          obtain ⟨d, r, rfl, rfl, rfl⟩ := q
          rfl) (Nat.le_refl 0)) (fun ds q => ⟨⟨w.h, q, by have := hw.h4; omega⟩, Nat.le_refl 5⟩)) (fun d q => by
          obtain ⟨ds, rfl, m, o, e, rfl, ho⟩ := q
          injection e with e _
          rw [← nD_inj e] at ho
          exact ⟨o, rfl, ho⟩) (Nat.le_refl 5))
      (PB.imp (n := 0 + 5) (pb_c (m := 0) (N := 5) (Fs := fun ds => ds = [nD w.h]) Cm hr rfl (PBA.imp (n := 0 + 0) (pba_cons (pb_of (pv_ixT (d := nD w.h) (kd := false) (ds := [nD w.h, modeD w.odd, tabsD w.tabs]) (pvn 3 rfl) (pv_int (i := 0)) (j := 0) rfl rfl)) pba_nil) (fun ds q => by
          obtain ⟨d, r, rfl, rfl, rfl⟩ := q
          rfl) (Nat.le_refl 0)) (fun ds q => ⟨⟨w.h, q, by have := hw.h4; omega⟩, Nat.le_refl 5⟩)) (fun d q => by
          obtain ⟨ds, rfl, m, o, e, rfl, ho⟩ := q
          injection e with e _
          rw [← nD_inj e] at ho
          exact ⟨o, rfl, ho⟩) (Nat.le_refl 5)) hω (by rw [Nat.add_assoc]; exact hcm _ (by decide))) fun ρ4 ω4 n4 => ?_
    clear hω
    obtain ⟨hω, d1, d2, ⟨o, rfl, ho⟩, ⟨m, rfl, hm⟩, rfl⟩ := n4
    have T := hturn w o m hw ho hm
    obtain ⟨f', a', l', t1, t2, t3, t4, t5, t6, t7, t8⟩ := T.like
    -- other, third
    refine sj_is (s1_par (i := 6) (j := 7) (da := wayD (exch w o)) (db := wayD (exch (exch w o) m)) rfl scLaw.nd rfl rfl (by decide) (pv_c cx hr (pav_cons (pvn 3 rfl) (pav_cons (pvn 4 rfl) pav_nil)) ⟨w, true, o, rfl, T.ok, rfl⟩)
      (pv_c cx hr (pav_cons (pv_c cx hr (pav_cons (pvn 3 rfl) (pav_cons (pvn 4 rfl) pav_nil)) ⟨w, true, o, rfl, T.ok, rfl⟩) (pav_cons (pvn 5 rfl) pav_nil)) ⟨exch w o, true, m, rfl, T.ok1, rfl⟩) (hω.not (by decide)) (hω.not (by decide))) ?_
    -- found, again
    refine sj_is (s1_unpack (is := [8, 9]) (ds := [optD (some f'), optD (some a')]) (k := false) rfl (pv_tup (pav_cons (pv_c cl hr (pav_cons (pvn 3 rfl) (pav_cons (pvn 6 rfl) pav_nil)) ⟨w, exch w o, rfl, T.ok, by rw [t1]⟩) (pav_cons (pv_c cl hr (pav_cons (pvn 6 rfl) (pav_cons (pvn 7 rfl) pav_nil)) ⟨exch w o, exch (exch w o) m, rfl, T.ok1, by rw [t2]⟩) pav_nil)))
      (pgs_cons (pg_name scLaw.nd rfl (.inr rfl)) (pgs_cons (pg_name scLaw.nd rfl (.inl rfl)) pgs_nil rfl) rfl) (.cons (.cons .nil)) rfl rfl (fun i hi => by
        rcases List.mem_cons.mp hi with rfl | hi
        · exact hω.not (by decide)
        · rw [List.mem_singleton.mp hi]
          exact hω.not (by decide))) ?_
    let ρ5 : Rho := [some (.scr K ns), none, some (nD t), some (wayD w), some (ordD o), some (ordD m), some (wayD (exch w o)), some (wayD (exch (exch w o) m)), some (gD f'), some (gD a'), none, none, none, none, none, none]
    refine sj_is (s1_if (N := Is ρ5 ω4) (b := false || (false || (false || false))) (pwv_or (ptv_isN (da := gD f') (pvn 8 rfl)) (pwv_or (ptv_gt hr.units (da := gD f') (db := ordD o) (pvn 8 rfl) (pvn 4 rfl) (nice_gD _).ok (nice_tup (nice_map nice_nD o)).1 (alike_tup alike_nD _ _ _ _) (fun z => by unfold gD at z; rw [er] at z; cases z) ((dataLt_tup alike_nD eqv_nD lt_nD true false o f').trans t3))
      (pwv_or (ptv_ne hr.units (pv_c cx hr (pav_cons (pvn 3 rfl) (pav_cons (pvn 8 rfl) pav_nil)) ⟨w, false, f', rfl, T.ok, rfl⟩) (pvn 6 rfl) (nice_wayD _).ok (nice_wayD _).ok (by rw [eqv_wayD, t4, decide_eq_true rfl]; rfl)) (pwv_or1 (ptv_isN (da := gD a') (pvn 9 rfl)))))).ptv (fun z => nomatch z) (fun _ => sj_nil ⟨rfl, rfl⟩)) ?_
    -- behind
    refine sj_is (s1_set (i := 10) (d := gD (a'.map fun i => f'.getD i 0)) scLaw.nd rfl (PV.cast (pv_tupleL (pv_lcX0 (own := [("_law_at", 14)]) (xs := a') (en := nD) 14 (fun i => nD (f'.getD i 0)) rfl scLaw.nd (piv_tup (k := false) (pvn 9 rfl)) (blkOk_by (N := nLaw) (sc := defScope sLaw) (by decide +kernel)) (by decide) (fun _ _ _ _ _ => pg_name (FnScope.nd scLaw) rfl (.inl rfl))
      (fun i hi _ _ _ _ _ => pv_ixT (kd := false) (ds := f'.map nD) (pvn 8 rfl) (pvn 14 rfl) (j := i) rfl (by rw [List.getElem?_map, List.getElem?_eq_getElem (t5 i hi), getD_at (t5 i hi)]; rfl))) B.tu) (by unfold gD; rw [List.map_map]; rfl)) (hω.not (by decide))) ?_
    let be := a'.map fun i => f'.getD i 0
    let ρ6 : Rho := [some (.scr K ns), none, some (nD t), some (wayD w), some (ordD o), some (ordD m), some (wayD (exch w o)), some (wayD (exch (exch w o) m)), some (gD f'), some (gD a'), some (gD be), none, none, none, none, none]
    refine sj_is (s1_if (N := Is ρ6 ω4) (b := false || false) (pwv_or (ptv_ne hr.units (pv_c cx hr (pav_cons (pvn 3 rfl) (pav_cons (pvn 10 rfl) pav_nil)) ⟨w, false, be, rfl, T.ok, rfl⟩) (pvn 7 rfl) (nice_wayD _).ok (nice_wayD _).ok (by rw [eqv_wayD, t6, decide_eq_true rfl]; rfl))
      (pwv_or1 (ptv_gt hr.units (da := gD l') (db := gD be) (pv_c cl hr (pav_cons (pvn 3 rfl) (pav_cons (pvn 7 rfl) pav_nil)) ⟨w, exch (exch w o) m, rfl, T.ok, by rw [t7]; rfl⟩) (pvn 10 rfl) (nice_gD _).ok (nice_gD _).1 (alike_gD _ _) (fun z => by unfold gD at z; rw [er] at z; cases z) ((lt_gD be l').trans t8)))).ptv (fun z => nomatch z) (fun _ => sj_nil ⟨rfl, rfl⟩)) ?_
    -- strange
    have htl : w.tabs.length ≤ 3 := hw.t3
    obtain ⟨tb0, tbs, etb⟩ : ∃ t ts, w.tabs = t :: ts := by
      cases q : w.tabs with
      | nil => have := hw.t2; rw [q] at this; exact absurd this (by decide)
      | cons x xs => exact ⟨x, xs, rfl⟩
    have hm0 : (w.tabs.getD 0 []).length ≤ 100 := by
      obtain ⟨mm, m1, m2, m3⟩ := hw.tab
      obtain ⟨t', e1, e2, _⟩ := m3 tb0 (by rw [etb]; exact List.mem_cons_self)
      rw [etb]
      show tb0.length ≤ 100
      rw [e1]
      unfold sortBy
      rw [(List.mergeSort_perm _ _).length_eq, e2]
      omega
    refine sj_cons (s1b_set (i := 1) (j := 11) (n := 609) (F := fun d => ∃ s, d = wayD s ∧ IsStr w s) scLaw.nd rfl (by decide) (PB.imp (n := 0 + (0 + (609 + 0))) (pb_tup (pba_cons (n := 0) (m := 0 + (609 + 0)) (pb_of (pv_ixT (d := nD w.h) (kd := false) (ds := [nD w.h, modeD w.odd, tabsD w.tabs]) (pvn 3 rfl) (pv_int (i := 0)) (j := 0) rfl rfl))
      (pba_cons (n := 0) (m := 609 + 0) (pb_of (pv_ixT (d := modeD w.odd) (kd := false) (ds := [nD w.h, modeD w.odd, tabsD w.tabs]) (pvn 3 rfl) (pv_int (i := 1)) (j := 1) rfl rfl))
      (pba_cons (n := 609) (m := 0) (PB.imp (n := 3 * 203) (F2 := fun d => ∃ ts : List Tab, d = tabsD ts ∧ ts.length = w.tabs.length ∧ ∀ x ∈ ts, IsTab w.h (w.tabs.getD 0 []).length x) (pb_tupleL (F := fun d => ∃ es : List Da, d = .list es ∧ es.length = w.tabs.length ∧ ∀ e ∈ es, ∃ t, e = tabD t ∧ IsTab w.h (w.tabs.getD 0 []).length t) (fun d q => by
          obtain ⟨es, rfl, _⟩ := q
          exact ⟨es, rfl⟩) (PB.imp (n := 3 * 203) (pb_lc (own := [("_law_table_here", 15)]) (ds := w.tabs.map tabD) (n := 203) (F := fun d => ∃ t, d = tabD t ∧ IsTab w.h (w.tabs.getD 0 []).length t) 15 3 rfl scLaw.nd (piv_tup (k := false) (pv_ixT (kd := false) (ds := [nD w.h, modeD w.odd, tabsD w.tabs]) (pvn 3 rfl) (pv_int (i := 2)) (j := 2) rfl rfl)) (blkOk_by (N := nLaw) (sc := defScope sLaw) (by decide +kernel)) (by decide) (by decide) (by rw [List.length_map]; exact htl) (fun _ _ _ _ _ => pg_name (FnScope.nd scLaw) rfl (.inl rfl))
          (fun d hd _ _ _ _ _ => PB.imp (n := 0 + 203) (pb_c (m := 0) (N := 203) (Fs := fun ds => ds = [nD w.h, nD (w.tabs.getD 0 []).length]) Ct hr rfl (PBA.imp (n := 0 + (0 + 0)) (pba_cons (n := 0) (m := 0 + 0) (pb_of (pv_ixT (d := nD w.h) (kd := false) (ds := [nD w.h, modeD w.odd, tabsD w.tabs]) (pvn 3 rfl) (pv_int (i := 0)) (j := 0) rfl rfl)) (pba_cons (n := 0) (m := 0) (pb_of (d := nD (w.tabs.getD 0 []).length) (PV.cast (pv_lenT (k := true) (ds := tb0.map gD) (pv_ixT (kd := false) (ds := w.tabs.map tabD) (pv_ixT (kd := false) (ds := [nD w.h, modeD w.odd, tabsD w.tabs]) (pvn 3 rfl) (pv_int (i := 2)) (j := 2) rfl rfl) (pv_int (i := 0)) (j := 0) rfl (by rw [etb]; rfl)) B.le) (by rw [List.length_map, etb]; rfl))) pba_nil)) (fun ds q => by
              obtain ⟨d, r, rfl, rfl, d2, r2, rfl, rfl, rfl⟩ := q
              rfl) (Nat.le_refl 0)) (fun ds q => ⟨⟨w.h, _, q, by have := hw.h4; omega, hm0⟩, Nat.le_refl 203⟩)) (fun d q => by
              obtain ⟨ds, rfl, h2, m2, t, e, rfl, q⟩ := q
              injection e with e1 e
              injection e with e2 _
              rw [← nD_inj e1, ← nD_inj e2] at q
              exact ⟨t, rfl, q⟩) (Nat.le_refl 203))) (fun d q => by
            obtain ⟨es, rfl, e1, e2⟩ := q
            exact ⟨es, rfl, by rw [e1, List.length_map], e2⟩) (Nat.le_refl 609)) B.tu) (fun d q => by
          obtain ⟨d, ⟨es, rfl, q1, q2⟩, rfl⟩ := q
          obtain ⟨ts, rfl, q3⟩ := all_tabD q2
          exact ⟨ts, rfl, by rw [← q1, List.length_map], q3⟩) (Nat.le_refl 609)) pba_nil))) (fun ds q => by
        obtain ⟨d, r, rfl, rfl, d2, r2, rfl, rfl, d3, r3, rfl, _, rfl⟩ := q
        show 3 ≤ 1000
        decide)) (fun d q => by
      obtain ⟨ds, ⟨d, r, rfl, rfl, d2, r2, rfl, rfl, d3, r3, rfl, ⟨ts, rfl, q1, q2⟩, rfl⟩, rfl⟩ := q
      exact ⟨⟨w.h, w.odd, ts⟩, rfl, isStr_of q1 q2⟩) (Nat.le_refl 609)) hω (by rw [Nat.add_assoc, Nat.add_assoc]; exact hcm _ (by decide))) fun ρ7 ω7 n7 => ?_
    clear hω
    obtain ⟨hω, d, ⟨sw, rfl, hsw⟩, rfl⟩ := n7
    have S := hstr w sw hw hsw
    let ρ8 : Rho := [some (.scr K ns), none, some (nD t), some (wayD w), some (ordD o), some (ordD m), some (wayD (exch w o)), some (wayD (exch (exch w o) m)), some (gD f'), some (gD a'), some (gD be), some (wayD sw), none, none, none, none]
    refine sj_is (s1_if (N := Is ρ8 ω7) (b := false) (ptv_ne hr.units (pv_notN (da := optD (likeness w sw)) (pv_c cl hr (pav_cons (pvn 3 rfl) (pav_cons (pvn 11 rfl) pav_nil)) ⟨w, sw, rfl, T.ok, rfl⟩)) (pv_eq hr.units (c := decide (firstForm w = firstForm sw)) (pv_c cf hr (pav_cons (pvn 3 rfl) pav_nil) ⟨w, rfl, T.ok, rfl⟩) (pv_c cf hr (pav_cons (pvn 11 rfl) pav_nil) ⟨sw, rfl, S.ok, rfl⟩) (nice_wayD _).ok (nice_wayD _).ok (eqv_wayD _ _))
      (nice_bool _).ok (nice_bool _).ok (by rw [eqv_bool, notNone_opt, S.like, decide_eq_true rfl]; rfl)) (fun z => nomatch z) (fun _ => sj_nil ⟨rfl, rfl⟩)) ?_
    have hfl : isNone (optD (likeness w (firstForm w))) = false := by
      rw [isNone_opt]
      have := T.fl
      cases q : likeness w (firstForm w) with
      | none => rw [q] at this; cases this
      | some x => rfl
    refine sj_is (s1_if (N := Is ρ8 ω7) (b := false || false) (pwv_or (ptv_ne hr.units (pv_c cf hr (pav_cons (pvn 3 rfl) pav_nil) ⟨w, rfl, T.ok, rfl⟩) (pv_c cf hr (pav_cons (pvn 7 rfl) pav_nil) ⟨exch (exch w o) m, rfl, T.ok3, rfl⟩) (nice_wayD _).ok (nice_wayD _).ok (by rw [eqv_wayD, T.ff, decide_eq_true rfl]; rfl))
      (pwv_or1 (hfl ▸ ptv_isN (da := optD (likeness w (firstForm w))) (pv_c cl hr (pav_cons (pvn 3 rfl) (pav_cons (pv_c cf hr (pav_cons (pvn 3 rfl) pav_nil) ⟨w, rfl, T.ok, rfl⟩) pav_nil)) ⟨w, firstForm w, rfl, T.ok, rfl⟩)))).ptv (fun z => nomatch z) (fun _ => sj_nil ⟨rfl, rfl⟩)) ?_
    refine sj_is (s1_if (N := Is ρ8 ω7) (b := !true || !true) (pwv_or (ptv_not (ptv_val (pv_c cs hr (pav_cons (pvn 3 rfl) (pav_cons (pvn 4 rfl) pav_nil)) ⟨w, o, rfl, T.seen, rfl⟩))) (pwv_or1 (ptv_not (ptv_val (pv_c ce hr (pav_cons (pvn 3 rfl) pav_nil) ⟨w, rfl, T.eqr, rfl⟩))))).ptv (fun z => nomatch z) (fun _ => sj_nil ⟨rfl, rfl⟩)) ?_
    -- what is made of both
    have b1 : fBeside [wayD w, wayD w] (wayD (beside w w)) := by
      obtain ⟨t, ts, e⟩ := bes_split T.bes1
      exact ⟨w, w, t, t, ts, ts, rfl, e, e, T.bes1.ok, T.bes1.ok, rfl⟩
    have b2 : fBeside [wayD (exch w o), wayD (exch w o)] (wayD (beside (exch w o) (exch w o))) := by
      obtain ⟨t, ts, e⟩ := bes_split T.bes2
      exact ⟨_, _, t, t, ts, ts, rfl, e, e, T.bes2.ok, T.bes2.ok, rfl⟩
    have to : ∀ v : Way, 2 ≤ v.tabs.length → fToned [wayD v, .tuple false [.int 1, .int 0]] (wayD (toned v [1, 0])) := fun v hv => ⟨v, [1, 0], rfl, fun i hi => by
      rcases List.mem_cons.mp hi with rfl | hi
      · omega
      · rw [List.mem_singleton.mp hi]; omega, rfl⟩
    have sl : ∀ v : Way, SlimOk v → fSlim [wayD v] (wayD (slim v)) := fun v hv => ⟨v, rfl, hv.h, hv.two, hv.few, hv.ok, rfl⟩
    refine sj_cons (s1_forX2 (i := 12) (j := 13) (xs := [(beside w w, beside (exch w o) (exch w o)), (toned w [1, 0], toned (exch w o) [1, 0]), (slim w, slim (exch w o))]) (en := fun q => wayD q.1) (en' := fun q => wayD q.2) (fun _ => True) (fun _ => ρ8) (fun _ => ω7) rfl scLaw.nd rfl rfl
      (piv_list (pv_lst (pav_cons (pv_tup (pav_cons (pv_c cbe hr (pav_cons (pvn 3 rfl) (pav_cons (pvn 3 rfl) pav_nil)) b1) (pav_cons (pv_c cbe hr (pav_cons (pvn 6 rfl) (pav_cons (pvn 6 rfl) pav_nil)) b2) pav_nil)))
        (pav_cons (pv_tup (pav_cons (pv_c cto hr (pav_cons (pvn 3 rfl) (pav_cons (pv_tup (pav_cons pv_int (pav_cons pv_int pav_nil))) pav_nil)) (to w T.ton1)) (pav_cons (pv_c cto hr (pav_cons (pvn 6 rfl) (pav_cons (pv_tup (pav_cons pv_int (pav_cons pv_int pav_nil))) pav_nil)) (to _ T.ton2)) pav_nil)))
        (pav_cons (pv_tup (pav_cons (pv_c csl hr (pav_cons (pvn 3 rfl) pav_nil) (sl w T.slim1)) (pav_cons (pv_c csl hr (pav_cons (pvn 6 rfl) pav_nil) (sl _ T.slim2)) pav_nil))) pav_nil))))) PassesOwn.never
      (RLe.refl _) (fun _ => rfl) rfl trivial (fun k l es z => by
        obtain ⟨_, _, _, e, _⟩ := hω
        rw [e] at z
        cases z
        exact ⟨by decide, by decide⟩) (fun j q hq _ => ?_) (pg_pair rfl scLaw.nd rfl rfl (.inl rfl) (.inl rfl))) fun ρ9 ω9 n9 => ?_
    · have A : Alike o q.1 q.2 := by
        have := List.mem_of_getElem? hq
        rcases List.mem_cons.mp this with rfl | this
        · exact T.bes
        rcases List.mem_cons.mp this with rfl | this
        · exact T.ton
        · rw [List.mem_singleton.mp this]
          exact T.slim
      refine sj_one (s1_if (b := false || false) (pwv_or (ptv_ne hr.units (pv_c cf hr (pav_cons (pvn 12 rfl) pav_nil) ⟨q.1, rfl, A.oa, rfl⟩) (pv_c cf hr (pav_cons (pvn 13 rfl) pav_nil) ⟨q.2, rfl, A.ob, rfl⟩) (nice_wayD _).ok (nice_wayD _).ok (by rw [eqv_wayD, A.ff, decide_eq_true rfl]; rfl))
        (pwv_or1 (ptv_ne hr.units (pv_c cx hr (pav_cons (pvn 12 rfl) (pav_cons (pvn 4 rfl) pav_nil)) ⟨q.1, true, o, rfl, A.oa, rfl⟩) (pvn 13 rfl) (nice_wayD _).ok (nice_wayD _).ok (by rw [eqv_wayD, A.ex, decide_eq_true rfl]; rfl)))).ptv (fun z => nomatch z) (fun _ => sj_nil ?_))
      exact ⟨trivial, rl_same (rl_none (rl_same (rl_same (rl_same (rl_same (rl_same (rl_same (rl_same (rl_same (rl_same (rl_same (rl_none (rl_none (rl_none (rl_none rl_nil))))))))))))))), rfl, rfl⟩
    · obtain ⟨_, rfl, rfl⟩ := n9
      refine sj_nil ⟨hω.mono (by rw [Nat.succ_mul]; omega), ?_, rfl⟩
      exact rl_same (rl_none (rl_none (rl_none (rl_none (rl_none (rl_none (rl_none (rl_none (rl_none (rl_none (rl_none (rl_none (rl_none (rl_none (rl_none rl_nil)))))))))))))))
  · exact sj_end (s1_ret pv_bl rfl)
end
end K42
/-! ## KTurn -/
/-! What the mathematics gives the law -/
namespace K42
theorem IsTab.dots {h m : Nat} {t : Tab} (q : IsTab h m t) : ∀ d ∈ t, d ∈ groups h := by
  obtain ⟨t', rfl, _, h2⟩ := q
  exact fun d hd => h2 d (sort_mem.mp hd)
theorem IsTab.srt {h m : Nat} {t : Tab} (q : IsTab h m t) : t.Pairwise (Le ltG) := by
  obtain ⟨t', rfl, _⟩ := q
  exact sort_pw TO.ltG _
theorem IsTab.len {h m : Nat} {t : Tab} (q : IsTab h m t) : t.length = m := by
  obtain ⟨t', rfl, h1, _⟩ := q
  rw [sort_len, h1]
theorem IsWay.wf {w : Way} (q : IsWay w) : Wf w := by
  obtain ⟨m, _, _, h⟩ := q.tab
  exact ⟨fun t ht => (h t ht).dots, fun t ht => (h t ht).srt⟩
theorem Wf.wok {w : Way} (W : Wf w) (h : w.h ≤ 5) : WOk w := ⟨h, W.dots⟩
theorem str_ok (w s : Way) (hw : IsWay w) (hs : IsStr w s) : StrOk w s := by
  have S : Wf s := ⟨fun t ht => by rw [hs.h]; exact (hs.tab t ht).dots, fun t ht => (hs.tab t ht).srt⟩
  have h4 := hw.h4
  exact ⟨S.wok (by rw [hs.h]; omega), like_first_iff hw.wf S hs.h⟩
theorem turn_ok (w : Way) (o m : List Nat) (hw : IsWay w) (P : o.Perm (List.range w.h)) (M : m.Perm (List.range w.h)) : TurnOk w o m := by
  have W := hw.wf
  have P : Pm w.h o := P
  have M : Pm w.h m := M
  have h4 := hw.h4
  have t2 := hw.t2
  have t3 := hw.t3
  obtain ⟨mm, m1, m6, htab⟩ := hw.tab
  have e1 := exch_h P
  have M1 : Pm (exch w o).h m := by rw [e1]; exact M
  have W1 := exch_wf W P
  have e3 := exch_h M1
  have W3 := exch_wf W1 M1
  have tl : (exch w o).tabs.length = w.tabs.length := exch_len W
  have ne : w.tabs ≠ [] := fun z => by rw [z] at t2; exact absurd t2 (by decide)
  have len1 : ∀ t ∈ (exch w o).tabs, t.length = mm := fun t ht => by
    rw [W.ex] at ht
    obtain ⟨s, hs, rfl⟩ := List.mem_map.mp (show t ∈ w.tabs.map (pt o) from ht)
    rw [pt_len, (htab s hs).len]
  have len0 : ∀ t ∈ w.tabs, t.length = mm := fun t ht => (htab t ht).len
  have t10 : ∀ i ∈ [1, 0], i < w.tabs.length := fun i hi => by
    rcases List.mem_cons.mp hi with rfl | hi
    · omega
    · rw [List.mem_singleton.mp hi]; omega
  have bw := bes_wf W
  have bh : (beside w w).h = w.h := by rw [bes_tabs]
  have tw := ton_wf W t10
  have sw := slim_wf w
  have mkA : ∀ v : Way, Wf v → v.h = w.h → Alike o v (exch v o) := fun v V hv => by
    have Pv : Pm v.h o := by rw [hv]; exact P
    exact ⟨V.wok (by rw [hv]; omega), (exch_wf V Pv).wok (by rw [exch_h Pv, hv]; omega), (first_exch V Pv).symm, rfl⟩
  refine { ok := W.wok (by omega), ok1 := W1.wok (by omega), ok3 := W3.wok (by omega), like := ?_, ff := ?_, fl := first_like W, seen := ?_, eqr := ?_, bes1 := ⟨ne, fun t ht => ?_⟩, bes2 := ⟨fun z => ?_, fun t ht => ?_⟩, bes := ?_, ton1 := t2, ton2 := by rw [tl]; exact t2, ton := ?_, slim1 := ⟨by omega, t2, by omega, fun t ht => by rw [len0 t ht]; omega⟩, slim2 := ⟨by omega, by rw [tl]; exact t2, by rw [tl]; omega, fun t ht => by rw [len1 t ht]; omega⟩, slim := ?_ }
  · obtain ⟨f, f1, f2, f3, f4⟩ := like_first (a := w) P rfl
    obtain ⟨a, a1, a2, a3, _⟩ := like_first (a := exch w o) M1 rfl
    rw [e1] at a2
    have c : exch w (comp f a) = exch (exch w o) m := by
      rw [← exch_exch W f2 a2, f3, a3]
    obtain ⟨l, l1, _, _, l4⟩ := like_first (a := w) (f2.comp a2) c
    exact ⟨f, a, l, f1, a1, f4, f3, fun i hi => by rw [f2.len]; exact a2.mem.mp hi, c, l1, l4⟩
  · rw [first_exch W1 M1, first_exch W P]
  · refine { ok := W.wok (by omega), ok2 := W1.wok (by omega), two := t2, few := by omega, hh := e1, tt := tl, inn := fun g hg => ?_, told := fun g hg => told_exch W P hg, shown := fun g hg => shown_exch W P hg, light := fun g hg i hi => light_exch W P hg hi, part := fun g hg => unlike_exch W P hg (by omega) (by omega), binn := fun g hg x hx => ?_, sinn := fun g hg x hx => ?_, einn := fun g hg x hx => ?_, blind := blind_exch W P, sighted := sighted_exch W P, e1 := fun i hi => lotE_ne W hi, e2 := fun i hi => lotE_ne W1 hi, equals := equals_exch W P }
    · obtain ⟨ga, gl⟩ := mem_groups.mp hg
      refine ⟨?_, fun x hx => by rw [P.len]; exact gl x hx⟩
      have := len_sub ga.nodup fun x hx => List.mem_range.mpr (gl x hx)
      rw [List.length_range] at this
      omega
    · exact P.mem.mpr ((mem_groups.mp (blind_grp hg)).2 x hx)
    · exact P.mem.mpr ((mem_groups.mp (sighted_grp hg)).2 x hx)
    · exact P.mem.mpr ((mem_groups.mp (equals_grp W hg)).2 x hx)
  · refine { ok := W.wok (by omega), two := t2, few := by omega, e1 := fun i hi => lotE_ne W hi, inn := fun g hg => ?_, same := fun lot hlot q hq g hg na nb => ?_ }
    · obtain ⟨ga, gl⟩ := mem_groups.mp hg
      have := len_sub ga.nodup fun x hx => List.mem_range.mpr (gl x hx)
      rw [List.length_range] at this
      omega
    · have hz := List.of_mem_zip hq
      obtain ⟨s1, s2⟩ := eqr_same W hlot hz.1 (List.mem_of_mem_drop hz.2) hg na nb
      exact ⟨s1, s2 0 (by omega)⟩
  · have := len0 t ht
    exact ⟨fun z => by rw [z] at this; simp at this; omega, by omega⟩
  · have := tl
    rw [z] at this
    simp at this
    omega
  · have := len1 t ht
    exact ⟨fun z => by rw [z] at this; simp at this; omega, by omega⟩
  · rw [← bes_exch W P]
    exact mkA _ bw bh
  · rw [← ton_exch W t10]
    exact mkA _ tw rfl
  · rw [← slim_exch W P ne]
    exact mkA _ sw (slim_h w)
end K42
/-! ## KEnd -/
/-! What the top has written; the law's own head -/
namespace K42
open PySem PySem.Spec L2
open PyProof.Rows hiding St
section
variable {K : PySem.W.Frag} {h : Heap} {mg : Str → Option Value}
theorem m_parts (X : K.In h) (G : h.Ns mainGlobals mg) {f : Addr} {od an : Option Addr} {sl : Array (Option Value)} {oc kV dc pm cd ct : Value} (a : PySem.W.nsIn K mainGlobals "parts" = some (some (.ref f))) (l : K.lookup f = some ⟨oc, od, .func (PySem.W.fnOf "parts" "parts" (defArgs sParts) (defBody sParts) (defScope sParts) .none kV dc pm an cd ct), sl⟩) (c : PySem.W.codeIn K cd "parts" = true) (k : PySem.W.keepIn K (.ref f) = true) : Fn K mg "parts" sParts ["group"] :=
  ⟨f, _, fun_mk (st := sParts) l c k, PySem.W.mg_of X G a, k, (fun_mk (st := sParts) l c k).binds (ps := ["group"]) fun _ _ _ _ _ _ us hl => match us, hl with | [_], _ => rfl⟩
theorem m_groups (X : K.In h) (G : h.Ns mainGlobals mg) {f : Addr} {od an : Option Addr} {sl : Array (Option Value)} {oc kV dc pm cd ct : Value} (a : PySem.W.nsIn K mainGlobals "groups" = some (some (.ref f))) (l : K.lookup f = some ⟨oc, od, .func (PySem.W.fnOf "groups" "groups" (defArgs sGroups) (defBody sGroups) (defScope sGroups) .none kV dc pm an cd ct), sl⟩) (c : PySem.W.codeIn K cd "groups" = true) (k : PySem.W.keepIn K (.ref f) = true) : Fn K mg "groups" sGroups ["holders"] :=
  ⟨f, _, fun_mk (st := sGroups) l c k, PySem.W.mg_of X G a, k, (fun_mk (st := sGroups) l c k).binds (ps := ["holders"]) fun _ _ _ _ _ _ us hl => match us, hl with | [_], _ => rfl⟩
theorem m_isPart (X : K.In h) (G : h.Ns mainGlobals mg) {f : Addr} {od an : Option Addr} {sl : Array (Option Value)} {oc kV dc pm cd ct : Value} (a : PySem.W.nsIn K mainGlobals "is_part" = some (some (.ref f))) (l : K.lookup f = some ⟨oc, od, .func (PySem.W.fnOf "is_part" "is_part" (defArgs sIsPart) (defBody sIsPart) (defScope sIsPart) .none kV dc pm an cd ct), sl⟩) (c : PySem.W.codeIn K cd "is_part" = true) (k : PySem.W.keepIn K (.ref f) = true) : Fn K mg "is_part" sIsPart ["group", "other"] :=
  ⟨f, _, fun_mk (st := sIsPart) l c k, PySem.W.mg_of X G a, k, (fun_mk (st := sIsPart) l c k).binds (ps := ["group", "other"]) fun _ _ _ _ _ _ us hl => match us, hl with | [_, _], _ => rfl⟩
theorem m_dots (X : K.In h) (G : h.Ns mainGlobals mg) {f : Addr} {od an : Option Addr} {sl : Array (Option Value)} {oc kV dc pm cd ct : Value} (a : PySem.W.nsIn K mainGlobals "dots" = some (some (.ref f))) (l : K.lookup f = some ⟨oc, od, .func (PySem.W.fnOf "dots" "dots" (defArgs sDots) (defBody sDots) (defScope sDots) .none kV dc pm an cd ct), sl⟩) (c : PySem.W.codeIn K cd "dots" = true) (k : PySem.W.keepIn K (.ref f) = true) : Fn K mg "dots" sDots ["way"] :=
  ⟨f, _, fun_mk (st := sDots) l c k, PySem.W.mg_of X G a, k, (fun_mk (st := sDots) l c k).binds (ps := ["way"]) fun _ _ _ _ _ _ us hl => match us, hl with | [_], _ => rfl⟩
theorem m_isDark (X : K.In h) (G : h.Ns mainGlobals mg) {f : Addr} {od an : Option Addr} {sl : Array (Option Value)} {oc kV dc pm cd ct : Value} (a : PySem.W.nsIn K mainGlobals "is_dark" = some (some (.ref f))) (l : K.lookup f = some ⟨oc, od, .func (PySem.W.fnOf "is_dark" "is_dark" (defArgs sIsDark) (defBody sIsDark) (defScope sIsDark) .none kV dc pm an cd ct), sl⟩) (c : PySem.W.codeIn K cd "is_dark" = true) (k : PySem.W.keepIn K (.ref f) = true) : Fn K mg "is_dark" sIsDark ["mode", "dot", "group"] :=
  ⟨f, _, fun_mk (st := sIsDark) l c k, PySem.W.mg_of X G a, k, (fun_mk (st := sIsDark) l c k).binds (ps := ["mode", "dot", "group"]) fun _ _ _ _ _ _ us hl => match us, hl with | [_, _, _], _ => rfl⟩
theorem m_lightOf (X : K.In h) (G : h.Ns mainGlobals mg) {f : Addr} {od an : Option Addr} {sl : Array (Option Value)} {oc kV dc pm cd ct : Value} (a : PySem.W.nsIn K mainGlobals "light_of" = some (some (.ref f))) (l : K.lookup f = some ⟨oc, od, .func (PySem.W.fnOf "light_of" "light_of" (defArgs sLightOf) (defBody sLightOf) (defScope sLightOf) .none kV dc pm an cd ct), sl⟩) (c : PySem.W.codeIn K cd "light_of" = true) (k : PySem.W.keepIn K (.ref f) = true) : Fn K mg "light_of" sLightOf ["mode", "table", "group"] :=
  ⟨f, _, fun_mk (st := sLightOf) l c k, PySem.W.mg_of X G a, k, (fun_mk (st := sLightOf) l c k).binds (ps := ["mode", "table", "group"]) fun _ _ _ _ _ _ us hl => match us, hl with | [_, _, _], _ => rfl⟩
theorem m_light (X : K.In h) (G : h.Ns mainGlobals mg) {f : Addr} {od an : Option Addr} {sl : Array (Option Value)} {oc kV dc pm cd ct : Value} (a : PySem.W.nsIn K mainGlobals "light" = some (some (.ref f))) (l : K.lookup f = some ⟨oc, od, .func (PySem.W.fnOf "light" "light" (defArgs sLight) (defBody sLight) (defScope sLight) .none kV dc pm an cd ct), sl⟩) (c : PySem.W.codeIn K cd "light" = true) (k : PySem.W.keepIn K (.ref f) = true) : Fn K mg "light" sLight ["way", "tone", "group"] :=
  ⟨f, _, fun_mk (st := sLight) l c k, PySem.W.mg_of X G a, k, (fun_mk (st := sLight) l c k).binds (ps := ["way", "tone", "group"]) fun _ _ _ _ _ _ us hl => match us, hl with | [_, _, _], _ => rfl⟩
theorem m_cutOf (X : K.In h) (G : h.Ns mainGlobals mg) {f : Addr} {od an : Option Addr} {sl : Array (Option Value)} {oc kV dc pm cd ct : Value} (a : PySem.W.nsIn K mainGlobals "cut_of" = some (some (.ref f))) (l : K.lookup f = some ⟨oc, od, .func (PySem.W.fnOf "cut_of" "cut_of" (defArgs sCutOf) (defBody sCutOf) (defScope sCutOf) .none kV dc pm an cd ct), sl⟩) (c : PySem.W.codeIn K cd "cut_of" = true) (k : PySem.W.keepIn K (.ref f) = true) : Fn K mg "cut_of" sCutOf ["table", "group"] :=
  ⟨f, _, fun_mk (st := sCutOf) l c k, PySem.W.mg_of X G a, k, (fun_mk (st := sCutOf) l c k).binds (ps := ["table", "group"]) fun _ _ _ _ _ _ us hl => match us, hl with | [_, _], _ => rfl⟩
theorem m_inLots (X : K.In h) (G : h.Ns mainGlobals mg) {f : Addr} {od an : Option Addr} {sl : Array (Option Value)} {oc kV dc pm cd ct : Value} (a : PySem.W.nsIn K mainGlobals "in_lots" = some (some (.ref f))) (l : K.lookup f = some ⟨oc, od, .func (PySem.W.fnOf "in_lots" "in_lots" (defArgs sInLots) (defBody sInLots) (defScope sInLots) .none kV dc pm an cd ct), sl⟩) (c : PySem.W.codeIn K cd "in_lots" = true) (k : PySem.W.keepIn K (.ref f) = true) : Fn K mg "in_lots" sInLots ["things"] :=
  ⟨f, _, fun_mk (st := sInLots) l c k, PySem.W.mg_of X G a, k, (fun_mk (st := sInLots) l c k).binds (ps := ["things"]) fun _ _ _ _ _ _ us hl => match us, hl with | [_], _ => rfl⟩
theorem m_told (X : K.In h) (G : h.Ns mainGlobals mg) {f : Addr} {od an : Option Addr} {sl : Array (Option Value)} {oc kV dc pm cd ct : Value} (a : PySem.W.nsIn K mainGlobals "told" = some (some (.ref f))) (l : K.lookup f = some ⟨oc, od, .func (PySem.W.fnOf "told" "told" (defArgs sTold) (defBody sTold) (defScope sTold) .none kV dc pm an cd ct), sl⟩) (c : PySem.W.codeIn K cd "told" = true) (k : PySem.W.keepIn K (.ref f) = true) : Fn K mg "told" sTold ["way", "group"] :=
  ⟨f, _, fun_mk (st := sTold) l c k, PySem.W.mg_of X G a, k, (fun_mk (st := sTold) l c k).binds (ps := ["way", "group"]) fun _ _ _ _ _ _ us hl => match us, hl with | [_, _], _ => rfl⟩
theorem m_shown (X : K.In h) (G : h.Ns mainGlobals mg) {f : Addr} {od an : Option Addr} {sl : Array (Option Value)} {oc kV dc pm cd ct : Value} (a : PySem.W.nsIn K mainGlobals "shown" = some (some (.ref f))) (l : K.lookup f = some ⟨oc, od, .func (PySem.W.fnOf "shown" "shown" (defArgs sShown) (defBody sShown) (defScope sShown) .none kV dc pm an cd ct), sl⟩) (c : PySem.W.codeIn K cd "shown" = true) (k : PySem.W.keepIn K (.ref f) = true) : Fn K mg "shown" sShown ["way", "group"] :=
  ⟨f, _, fun_mk (st := sShown) l c k, PySem.W.mg_of X G a, k, (fun_mk (st := sShown) l c k).binds (ps := ["way", "group"]) fun _ _ _ _ _ _ us hl => match us, hl with | [_, _], _ => rfl⟩
theorem m_unlike (X : K.In h) (G : h.Ns mainGlobals mg) {f : Addr} {od an : Option Addr} {sl : Array (Option Value)} {oc kV dc pm cd ct : Value} (a : PySem.W.nsIn K mainGlobals "unlike_part" = some (some (.ref f))) (l : K.lookup f = some ⟨oc, od, .func (PySem.W.fnOf "unlike_part" "unlike_part" (defArgs sUnlike) (defBody sUnlike) (defScope sUnlike) .none kV dc pm an cd ct), sl⟩) (c : PySem.W.codeIn K cd "unlike_part" = true) (k : PySem.W.keepIn K (.ref f) = true) : Fn K mg "unlike_part" sUnlike ["way", "one", "other", "group"] :=
  ⟨f, _, fun_mk (st := sUnlike) l c k, PySem.W.mg_of X G a, k, (fun_mk (st := sUnlike) l c k).binds (ps := ["way", "one", "other", "group"]) fun _ _ _ _ _ _ us hl => match us, hl with | [_, _, _, _], _ => rfl⟩
theorem m_isBlind (X : K.In h) (G : h.Ns mainGlobals mg) {f : Addr} {od an : Option Addr} {sl : Array (Option Value)} {oc kV dc pm cd ct : Value} (a : PySem.W.nsIn K mainGlobals "is_blind" = some (some (.ref f))) (l : K.lookup f = some ⟨oc, od, .func (PySem.W.fnOf "is_blind" "is_blind" (defArgs sIsBlind) (defBody sIsBlind) (defScope sIsBlind) .none kV dc pm an cd ct), sl⟩) (c : PySem.W.codeIn K cd "is_blind" = true) (k : PySem.W.keepIn K (.ref f) = true) : Fn K mg "is_blind" sIsBlind ["way", "group"] :=
  ⟨f, _, fun_mk (st := sIsBlind) l c k, PySem.W.mg_of X G a, k, (fun_mk (st := sIsBlind) l c k).binds (ps := ["way", "group"]) fun _ _ _ _ _ _ us hl => match us, hl with | [_, _], _ => rfl⟩
theorem m_greatest (X : K.In h) (G : h.Ns mainGlobals mg) {f : Addr} {od an : Option Addr} {sl : Array (Option Value)} {oc kV dc pm cd ct : Value} (a : PySem.W.nsIn K mainGlobals "greatest" = some (some (.ref f))) (l : K.lookup f = some ⟨oc, od, .func (PySem.W.fnOf "greatest" "greatest" (defArgs sGreatest) (defBody sGreatest) (defScope sGreatest) .none kV dc pm an cd ct), sl⟩) (c : PySem.W.codeIn K cd "greatest" = true) (k : PySem.W.keepIn K (.ref f) = true) : Fn K mg "greatest" sGreatest ["some"] :=
  ⟨f, _, fun_mk (st := sGreatest) l c k, PySem.W.mg_of X G a, k, (fun_mk (st := sGreatest) l c k).binds (ps := ["some"]) fun _ _ _ _ _ _ us hl => match us, hl with | [_], _ => rfl⟩
theorem m_least (X : K.In h) (G : h.Ns mainGlobals mg) {f : Addr} {od an : Option Addr} {sl : Array (Option Value)} {oc kV dc pm cd ct : Value} (a : PySem.W.nsIn K mainGlobals "least" = some (some (.ref f))) (l : K.lookup f = some ⟨oc, od, .func (PySem.W.fnOf "least" "least" (defArgs sLeast) (defBody sLeast) (defScope sLeast) .none kV dc pm an cd ct), sl⟩) (c : PySem.W.codeIn K cd "least" = true) (k : PySem.W.keepIn K (.ref f) = true) : Fn K mg "least" sLeast ["some"] :=
  ⟨f, _, fun_mk (st := sLeast) l c k, PySem.W.mg_of X G a, k, (fun_mk (st := sLeast) l c k).binds (ps := ["some"]) fun _ _ _ _ _ _ us hl => match us, hl with | [_], _ => rfl⟩
theorem m_blind (X : K.In h) (G : h.Ns mainGlobals mg) {f : Addr} {od an : Option Addr} {sl : Array (Option Value)} {oc kV dc pm cd ct : Value} (a : PySem.W.nsIn K mainGlobals "blind" = some (some (.ref f))) (l : K.lookup f = some ⟨oc, od, .func (PySem.W.fnOf "blind" "blind" (defArgs sBlind) (defBody sBlind) (defScope sBlind) .none kV dc pm an cd ct), sl⟩) (c : PySem.W.codeIn K cd "blind" = true) (k : PySem.W.keepIn K (.ref f) = true) : Fn K mg "blind" sBlind ["way"] :=
  ⟨f, _, fun_mk (st := sBlind) l c k, PySem.W.mg_of X G a, k, (fun_mk (st := sBlind) l c k).binds (ps := ["way"]) fun _ _ _ _ _ _ us hl => match us, hl with | [_], _ => rfl⟩
theorem m_sighted (X : K.In h) (G : h.Ns mainGlobals mg) {f : Addr} {od an : Option Addr} {sl : Array (Option Value)} {oc kV dc pm cd ct : Value} (a : PySem.W.nsIn K mainGlobals "sighted" = some (some (.ref f))) (l : K.lookup f = some ⟨oc, od, .func (PySem.W.fnOf "sighted" "sighted" (defArgs sSighted) (defBody sSighted) (defScope sSighted) .none kV dc pm an cd ct), sl⟩) (c : PySem.W.codeIn K cd "sighted" = true) (k : PySem.W.keepIn K (.ref f) = true) : Fn K mg "sighted" sSighted ["way"] :=
  ⟨f, _, fun_mk (st := sSighted) l c k, PySem.W.mg_of X G a, k, (fun_mk (st := sSighted) l c k).binds (ps := ["way"]) fun _ _ _ _ _ _ us hl => match us, hl with | [_], _ => rfl⟩
theorem m_sortedWay (X : K.In h) (G : h.Ns mainGlobals mg) {f : Addr} {od an : Option Addr} {sl : Array (Option Value)} {oc kV dc pm cd ct : Value} (a : PySem.W.nsIn K mainGlobals "sorted_way" = some (some (.ref f))) (l : K.lookup f = some ⟨oc, od, .func (PySem.W.fnOf "sorted_way" "sorted_way" (defArgs sSortedWay) (defBody sSortedWay) (defScope sSortedWay) .none kV dc pm an cd ct), sl⟩) (c : PySem.W.codeIn K cd "sorted_way" = true) (k : PySem.W.keepIn K (.ref f) = true) : Fn K mg "sorted_way" sSortedWay ["holders", "mode", "tables"] :=
  ⟨f, _, fun_mk (st := sSortedWay) l c k, PySem.W.mg_of X G a, k, (fun_mk (st := sSortedWay) l c k).binds (ps := ["holders", "mode", "tables"]) fun _ _ _ _ _ _ us hl => match us, hl with | [_, _, _], _ => rfl⟩
theorem m_beside (X : K.In h) (G : h.Ns mainGlobals mg) {f : Addr} {od an : Option Addr} {sl : Array (Option Value)} {oc kV dc pm cd ct : Value} (a : PySem.W.nsIn K mainGlobals "beside" = some (some (.ref f))) (l : K.lookup f = some ⟨oc, od, .func (PySem.W.fnOf "beside" "beside" (defArgs sBeside) (defBody sBeside) (defScope sBeside) .none kV dc pm an cd ct), sl⟩) (c : PySem.W.codeIn K cd "beside" = true) (k : PySem.W.keepIn K (.ref f) = true) : Fn K mg "beside" sBeside ["one", "other"] :=
  ⟨f, _, fun_mk (st := sBeside) l c k, PySem.W.mg_of X G a, k, (fun_mk (st := sBeside) l c k).binds (ps := ["one", "other"]) fun _ _ _ _ _ _ us hl => match us, hl with | [_, _], _ => rfl⟩
theorem m_merged (X : K.In h) (G : h.Ns mainGlobals mg) {f : Addr} {od an : Option Addr} {sl : Array (Option Value)} {oc kV dc pm cd ct : Value} (a : PySem.W.nsIn K mainGlobals "merged" = some (some (.ref f))) (l : K.lookup f = some ⟨oc, od, .func (PySem.W.fnOf "merged" "merged" (defArgs sMerged) (defBody sMerged) (defScope sMerged) .none kV dc pm an cd ct), sl⟩) (c : PySem.W.codeIn K cd "merged" = true) (k : PySem.W.keepIn K (.ref f) = true) : Fn K mg "merged" sMerged ["way", "lots"] :=
  ⟨f, _, fun_mk (st := sMerged) l c k, PySem.W.mg_of X G a, k, (fun_mk (st := sMerged) l c k).binds (ps := ["way", "lots"]) fun _ _ _ _ _ _ us hl => match us, hl with | [_, _], _ => rfl⟩
theorem m_exch (X : K.In h) (G : h.Ns mainGlobals mg) {f : Addr} {od an : Option Addr} {sl : Array (Option Value)} {oc kV dc pm cd ct : Value} (a : PySem.W.nsIn K mainGlobals "exchanged" = some (some (.ref f))) (l : K.lookup f = some ⟨oc, od, .func (PySem.W.fnOf "exchanged" "exchanged" (defArgs sExch) (defBody sExch) (defScope sExch) .none kV dc pm an cd ct), sl⟩) (c : PySem.W.codeIn K cd "exchanged" = true) (k : PySem.W.keepIn K (.ref f) = true) : Fn K mg "exchanged" sExch ["way", "order"] :=
  ⟨f, _, fun_mk (st := sExch) l c k, PySem.W.mg_of X G a, k, (fun_mk (st := sExch) l c k).binds (ps := ["way", "order"]) fun _ _ _ _ _ _ us hl => match us, hl with | [_, _], _ => rfl⟩
theorem m_toned (X : K.In h) (G : h.Ns mainGlobals mg) {f : Addr} {od an : Option Addr} {sl : Array (Option Value)} {oc kV dc pm cd ct : Value} (a : PySem.W.nsIn K mainGlobals "toned" = some (some (.ref f))) (l : K.lookup f = some ⟨oc, od, .func (PySem.W.fnOf "toned" "toned" (defArgs sToned) (defBody sToned) (defScope sToned) .none kV dc pm an cd ct), sl⟩) (c : PySem.W.codeIn K cd "toned" = true) (k : PySem.W.keepIn K (.ref f) = true) : Fn K mg "toned" sToned ["way", "tones"] :=
  ⟨f, _, fun_mk (st := sToned) l c k, PySem.W.mg_of X G a, k, (fun_mk (st := sToned) l c k).binds (ps := ["way", "tones"]) fun _ _ _ _ _ _ us hl => match us, hl with | [_, _], _ => rfl⟩
theorem m_orders (X : K.In h) (G : h.Ns mainGlobals mg) {f : Addr} {od an : Option Addr} {sl : Array (Option Value)} {oc kV dc pm cd ct : Value} (a : PySem.W.nsIn K mainGlobals "orders_of" = some (some (.ref f))) (l : K.lookup f = some ⟨oc, od, .func (PySem.W.fnOf "orders_of" "orders_of" (defArgs sOrders) (defBody sOrders) (defScope sOrders) .none kV dc pm an cd ct), sl⟩) (c : PySem.W.codeIn K cd "orders_of" = true) (k : PySem.W.keepIn K (.ref f) = true) : Fn K mg "orders_of" sOrders ["holders"] :=
  ⟨f, _, fun_mk (st := sOrders) l c k, PySem.W.mg_of X G a, k, (fun_mk (st := sOrders) l c k).binds (ps := ["holders"]) fun _ _ _ _ _ _ us hl => match us, hl with | [_], _ => rfl⟩
theorem m_likeness (X : K.In h) (G : h.Ns mainGlobals mg) {f : Addr} {od an : Option Addr} {sl : Array (Option Value)} {oc kV dc pm cd ct : Value} (a : PySem.W.nsIn K mainGlobals "likeness" = some (some (.ref f))) (l : K.lookup f = some ⟨oc, od, .func (PySem.W.fnOf "likeness" "likeness" (defArgs sLikeness) (defBody sLikeness) (defScope sLikeness) .none kV dc pm an cd ct), sl⟩) (c : PySem.W.codeIn K cd "likeness" = true) (k : PySem.W.keepIn K (.ref f) = true) : Fn K mg "likeness" sLikeness ["one", "other"] :=
  ⟨f, _, fun_mk (st := sLikeness) l c k, PySem.W.mg_of X G a, k, (fun_mk (st := sLikeness) l c k).binds (ps := ["one", "other"]) fun _ _ _ _ _ _ us hl => match us, hl with | [_, _], _ => rfl⟩
theorem m_firstForm (X : K.In h) (G : h.Ns mainGlobals mg) {f : Addr} {od an : Option Addr} {sl : Array (Option Value)} {oc kV dc pm cd ct : Value} (a : PySem.W.nsIn K mainGlobals "first_form" = some (some (.ref f))) (l : K.lookup f = some ⟨oc, od, .func (PySem.W.fnOf "first_form" "first_form" (defArgs sFirstForm) (defBody sFirstForm) (defScope sFirstForm) .none kV dc pm an cd ct), sl⟩) (c : PySem.W.codeIn K cd "first_form" = true) (k : PySem.W.keepIn K (.ref f) = true) : Fn K mg "first_form" sFirstForm ["way"] :=
  ⟨f, _, fun_mk (st := sFirstForm) l c k, PySem.W.mg_of X G a, k, (fun_mk (st := sFirstForm) l c k).binds (ps := ["way"]) fun _ _ _ _ _ _ us hl => match us, hl with | [_], _ => rfl⟩
theorem m_swapped (X : K.In h) (G : h.Ns mainGlobals mg) {f : Addr} {od an : Option Addr} {sl : Array (Option Value)} {oc kV dc pm cd ct : Value} (a : PySem.W.nsIn K mainGlobals "swapped" = some (some (.ref f))) (l : K.lookup f = some ⟨oc, od, .func (PySem.W.fnOf "swapped" "swapped" (defArgs sSwapped) (defBody sSwapped) (defScope sSwapped) .none kV dc pm an cd ct), sl⟩) (c : PySem.W.codeIn K cd "swapped" = true) (k : PySem.W.keepIn K (.ref f) = true) : Fn K mg "swapped" sSwapped ["holders", "one", "other"] :=
  ⟨f, _, fun_mk (st := sSwapped) l c k, PySem.W.mg_of X G a, k, (fun_mk (st := sSwapped) l c k).binds (ps := ["holders", "one", "other"]) fun _ _ _ _ _ _ us hl => match us, hl with | [_, _, _], _ => rfl⟩
theorem m_equals (X : K.In h) (G : h.Ns mainGlobals mg) {f : Addr} {od an : Option Addr} {sl : Array (Option Value)} {oc kV dc pm cd ct : Value} (a : PySem.W.nsIn K mainGlobals "equals" = some (some (.ref f))) (l : K.lookup f = some ⟨oc, od, .func (PySem.W.fnOf "equals" "equals" (defArgs sEquals) (defBody sEquals) (defScope sEquals) .none kV dc pm an cd ct), sl⟩) (c : PySem.W.codeIn K cd "equals" = true) (k : PySem.W.keepIn K (.ref f) = true) : Fn K mg "equals" sEquals ["way"] :=
  ⟨f, _, fun_mk (st := sEquals) l c k, PySem.W.mg_of X G a, k, (fun_mk (st := sEquals) l c k).binds (ps := ["way"]) fun _ _ _ _ _ _ us hl => match us, hl with | [_], _ => rfl⟩
theorem m_tableBy (X : K.In h) (G : h.Ns mainGlobals mg) {f : Addr} {od an : Option Addr} {sl : Array (Option Value)} {oc kV dc pm cd ct : Value} (a : PySem.W.nsIn K mainGlobals "table_by" = some (some (.ref f))) (l : K.lookup f = some ⟨oc, od, .func (PySem.W.fnOf "table_by" "table_by" (defArgs sTableBy) (defBody sTableBy) (defScope sTableBy) .none kV dc pm an cd ct), sl⟩) (c : PySem.W.codeIn K cd "table_by" = true) (k : PySem.W.keepIn K (.ref f) = true) : Fn K mg "table_by" sTableBy ["holders", "numbers"] :=
  ⟨f, _, fun_mk (st := sTableBy) l c k, PySem.W.mg_of X G a, k, (fun_mk (st := sTableBy) l c k).binds (ps := ["holders", "numbers"]) fun _ _ _ _ _ _ us hl => match us, hl with | [_, _], _ => rfl⟩
theorem m_slim (X : K.In h) (G : h.Ns mainGlobals mg) {f : Addr} {od an : Option Addr} {sl : Array (Option Value)} {oc kV dc pm cd ct : Value} (a : PySem.W.nsIn K mainGlobals "slim" = some (some (.ref f))) (l : K.lookup f = some ⟨oc, od, .func (PySem.W.fnOf "slim" "slim" (defArgs sSlim) (defBody sSlim) (defScope sSlim) .none kV dc pm an cd ct), sl⟩) (c : PySem.W.codeIn K cd "slim" = true) (k : PySem.W.keepIn K (.ref f) = true) : Fn K mg "slim" sSlim ["way"] :=
  ⟨f, _, fun_mk (st := sSlim) l c k, PySem.W.mg_of X G a, k, (fun_mk (st := sSlim) l c k).binds (ps := ["way"]) fun _ _ _ _ _ _ us hl => match us, hl with | [_], _ => rfl⟩
theorem m_bag (X : K.In h) (G : h.Ns mainGlobals mg) {f : Addr} {od an : Option Addr} {sl : Array (Option Value)} {oc kV dc pm cd ct : Value} (a : PySem.W.nsIn K mainGlobals "_law_bag" = some (some (.ref f))) (l : K.lookup f = some ⟨oc, od, .func (PySem.W.fnOf "_law_bag" "_law_bag" (defArgs sBag) (defBody sBag) (defScope sBag) .none kV dc pm an cd ct), sl⟩) (c : PySem.W.codeIn K cd "_law_bag" = true) (k : PySem.W.keepIn K (.ref f) = true) : Fn K mg "_law_bag" sBag ["_law_script"] :=
  ⟨f, _, fun_mk (st := sBag) l c k, PySem.W.mg_of X G a, k, (fun_mk (st := sBag) l c k).binds (ps := ["_law_script"]) fun _ _ _ _ _ _ us hl => match us, hl with | [_], _ => rfl⟩
theorem m_draw (X : K.In h) (G : h.Ns mainGlobals mg) {f : Addr} {od an : Option Addr} {sl : Array (Option Value)} {oc kV dc pm cd ct : Value} (a : PySem.W.nsIn K mainGlobals "_law_draw" = some (some (.ref f))) (l : K.lookup f = some ⟨oc, od, .func (PySem.W.fnOf "_law_draw" "_law_draw" (defArgs sDraw) (defBody sDraw) (defScope sDraw) .none kV dc pm an cd ct), sl⟩) (c : PySem.W.codeIn K cd "_law_draw" = true) (k : PySem.W.keepIn K (.ref f) = true) : Fn K mg "_law_draw" sDraw ["_law_bag_here", "_law_many"] :=
  ⟨f, _, fun_mk (st := sDraw) l c k, PySem.W.mg_of X G a, k, (fun_mk (st := sDraw) l c k).binds (ps := ["_law_bag_here", "_law_many"]) fun _ _ _ _ _ _ us hl => match us, hl with | [_, _], _ => rfl⟩
theorem m_pick (X : K.In h) (G : h.Ns mainGlobals mg) {f : Addr} {od an : Option Addr} {sl : Array (Option Value)} {oc kV dc pm cd ct : Value} (a : PySem.W.nsIn K mainGlobals "_law_pick" = some (some (.ref f))) (l : K.lookup f = some ⟨oc, od, .func (PySem.W.fnOf "_law_pick" "_law_pick" (defArgs sPick) (defBody sPick) (defScope sPick) .none kV dc pm an cd ct), sl⟩) (c : PySem.W.codeIn K cd "_law_pick" = true) (k : PySem.W.keepIn K (.ref f) = true) : Fn K mg "_law_pick" sPick ["_law_bag_here", "_law_items"] :=
  ⟨f, _, fun_mk (st := sPick) l c k, PySem.W.mg_of X G a, k, (fun_mk (st := sPick) l c k).binds (ps := ["_law_bag_here", "_law_items"]) fun _ _ _ _ _ _ us hl => match us, hl with | [_, _], _ => rfl⟩
theorem m_mixed (X : K.In h) (G : h.Ns mainGlobals mg) {f : Addr} {od an : Option Addr} {sl : Array (Option Value)} {oc kV dc pm cd ct : Value} (a : PySem.W.nsIn K mainGlobals "_law_mixed" = some (some (.ref f))) (l : K.lookup f = some ⟨oc, od, .func (PySem.W.fnOf "_law_mixed" "_law_mixed" (defArgs sMixed) (defBody sMixed) (defScope sMixed) .none kV dc pm an cd ct), sl⟩) (c : PySem.W.codeIn K cd "_law_mixed" = true) (k : PySem.W.keepIn K (.ref f) = true) : Fn K mg "_law_mixed" sMixed ["_law_bag_here", "_law_many"] :=
  ⟨f, _, fun_mk (st := sMixed) l c k, PySem.W.mg_of X G a, k, (fun_mk (st := sMixed) l c k).binds (ps := ["_law_bag_here", "_law_many"]) fun _ _ _ _ _ _ us hl => match us, hl with | [_, _], _ => rfl⟩
theorem m_lawGroups (X : K.In h) (G : h.Ns mainGlobals mg) {f : Addr} {od an : Option Addr} {sl : Array (Option Value)} {oc kV dc pm cd ct : Value} (a : PySem.W.nsIn K mainGlobals "_law_groups" = some (some (.ref f))) (l : K.lookup f = some ⟨oc, od, .func (PySem.W.fnOf "_law_groups" "_law_groups" (defArgs sLawGroups) (defBody sLawGroups) (defScope sLawGroups) .none kV dc pm an cd ct), sl⟩) (c : PySem.W.codeIn K cd "_law_groups" = true) (k : PySem.W.keepIn K (.ref f) = true) : Fn K mg "_law_groups" sLawGroups ["_law_holders"] :=
  ⟨f, _, fun_mk (st := sLawGroups) l c k, PySem.W.mg_of X G a, k, (fun_mk (st := sLawGroups) l c k).binds (ps := ["_law_holders"]) fun _ _ _ _ _ _ us hl => match us, hl with | [_], _ => rfl⟩
theorem m_table (X : K.In h) (G : h.Ns mainGlobals mg) {f : Addr} {od an : Option Addr} {sl : Array (Option Value)} {oc kV dc pm cd ct : Value} (a : PySem.W.nsIn K mainGlobals "_law_table" = some (some (.ref f))) (l : K.lookup f = some ⟨oc, od, .func (PySem.W.fnOf "_law_table" "_law_table" (defArgs sTable) (defBody sTable) (defScope sTable) .none kV dc pm an cd ct), sl⟩) (c : PySem.W.codeIn K cd "_law_table" = true) (k : PySem.W.keepIn K (.ref f) = true) : Fn K mg "_law_table" sTable ["_law_bag_here", "_law_holders", "_law_many"] :=
  ⟨f, _, fun_mk (st := sTable) l c k, PySem.W.mg_of X G a, k, (fun_mk (st := sTable) l c k).binds (ps := ["_law_bag_here", "_law_holders", "_law_many"]) fun _ _ _ _ _ _ us hl => match us, hl with | [_, _, _], _ => rfl⟩
theorem m_way (X : K.In h) (G : h.Ns mainGlobals mg) {f : Addr} {od an : Option Addr} {sl : Array (Option Value)} {oc kV dc pm cd ct : Value} (a : PySem.W.nsIn K mainGlobals "_law_way" = some (some (.ref f))) (l : K.lookup f = some ⟨oc, od, .func (PySem.W.fnOf "_law_way" "_law_way" (defArgs sWay) (defBody sWay) (defScope sWay) .none kV dc pm an cd ct), sl⟩) (c : PySem.W.codeIn K cd "_law_way" = true) (k : PySem.W.keepIn K (.ref f) = true) : Fn K mg "_law_way" sWay ["_law_bag_here", "_law_holders", "_law_tones", "_law_many"] :=
  ⟨f, _, fun_mk (st := sWay) l c k, PySem.W.mg_of X G a, k, (fun_mk (st := sWay) l c k).binds (ps := ["_law_bag_here", "_law_holders", "_law_tones", "_law_many"]) fun _ _ _ _ _ _ us hl => match us, hl with | [_, _, _, _], _ => rfl⟩
theorem m_led (X : K.In h) (G : h.Ns mainGlobals mg) {f : Addr} {od an : Option Addr} {sl : Array (Option Value)} {oc kV dc pm cd ct : Value} (a : PySem.W.nsIn K mainGlobals "_law_led" = some (some (.ref f))) (l : K.lookup f = some ⟨oc, od, .func (PySem.W.fnOf "_law_led" "_law_led" (defArgs sLed) (defBody sLed) (defScope sLed) .none kV dc pm an cd ct), sl⟩) (c : PySem.W.codeIn K cd "_law_led" = true) (k : PySem.W.keepIn K (.ref f) = true) : Fn K mg "_law_led" sLed ["_law_order", "_law_group"] :=
  ⟨f, _, fun_mk (st := sLed) l c k, PySem.W.mg_of X G a, k, (fun_mk (st := sLed) l c k).binds (ps := ["_law_order", "_law_group"]) fun _ _ _ _ _ _ us hl => match us, hl with | [_, _], _ => rfl⟩
theorem m_back (X : K.In h) (G : h.Ns mainGlobals mg) {f : Addr} {od an : Option Addr} {sl : Array (Option Value)} {oc kV dc pm cd ct : Value} (a : PySem.W.nsIn K mainGlobals "_law_back" = some (some (.ref f))) (l : K.lookup f = some ⟨oc, od, .func (PySem.W.fnOf "_law_back" "_law_back" (defArgs sBack) (defBody sBack) (defScope sBack) .none kV dc pm an cd ct), sl⟩) (c : PySem.W.codeIn K cd "_law_back" = true) (k : PySem.W.keepIn K (.ref f) = true) : Fn K mg "_law_back" sBack ["_law_order", "_law_lots"] :=
  ⟨f, _, fun_mk (st := sBack) l c k, PySem.W.mg_of X G a, k, (fun_mk (st := sBack) l c k).binds (ps := ["_law_order", "_law_lots"]) fun _ _ _ _ _ _ us hl => match us, hl with | [_, _], _ => rfl⟩
theorem m_seen (X : K.In h) (G : h.Ns mainGlobals mg) {f : Addr} {od an : Option Addr} {sl : Array (Option Value)} {oc kV dc pm cd ct : Value} (a : PySem.W.nsIn K mainGlobals "_law_seen_right" = some (some (.ref f))) (l : K.lookup f = some ⟨oc, od, .func (PySem.W.fnOf "_law_seen_right" "_law_seen_right" (defArgs sSeen) (defBody sSeen) (defScope sSeen) .none kV dc pm an cd ct), sl⟩) (c : PySem.W.codeIn K cd "_law_seen_right" = true) (k : PySem.W.keepIn K (.ref f) = true) : Fn K mg "_law_seen_right" sSeen ["_law_way_here", "_law_order"] :=
  ⟨f, _, fun_mk (st := sSeen) l c k, PySem.W.mg_of X G a, k, (fun_mk (st := sSeen) l c k).binds (ps := ["_law_way_here", "_law_order"]) fun _ _ _ _ _ _ us hl => match us, hl with | [_, _], _ => rfl⟩
theorem m_eqR (X : K.In h) (G : h.Ns mainGlobals mg) {f : Addr} {od an : Option Addr} {sl : Array (Option Value)} {oc kV dc pm cd ct : Value} (a : PySem.W.nsIn K mainGlobals "_law_equals_right" = some (some (.ref f))) (l : K.lookup f = some ⟨oc, od, .func (PySem.W.fnOf "_law_equals_right" "_law_equals_right" (defArgs sEqR) (defBody sEqR) (defScope sEqR) .none kV dc pm an cd ct), sl⟩) (c : PySem.W.codeIn K cd "_law_equals_right" = true) (k : PySem.W.keepIn K (.ref f) = true) : Fn K mg "_law_equals_right" sEqR ["_law_way_here"] :=
  ⟨f, _, fun_mk (st := sEqR) l c k, PySem.W.mg_of X G a, k, (fun_mk (st := sEqR) l c k).binds (ps := ["_law_way_here"]) fun _ _ _ _ _ _ us hl => match us, hl with | [_], _ => rfl⟩
theorem all_mk {l : PySem.W.OpenLaw} {w : World} {fa fl : Addr} (X : K.In h) (G : h.Ns mainGlobals mg) (hfa : mg "law" = some (.ref fa)) {od an : Option Addr} {sl : Array (Option Value)} {oc kV dc pm cd ct : Value} {t0 : Tok}
    (a : PySem.W.nsIn K mainGlobals "law" = some (some (.ref fl))) (lk : K.lookup fl = some ⟨oc, od, .func (PySem.W.fnOf "law" "law" (defArgs sLaw) (defBody sLaw) (defScope sLaw) .none kV dc pm an cd ct), sl⟩) (c : PySem.W.codeIn K cd "law" = true) (k : PySem.W.keepIn K (.ref fl) = true)
    (n_parts : Fn K mg "parts" sParts ["group"]) (n_groups : Fn K mg "groups" sGroups ["holders"]) (n_isPart : Fn K mg "is_part" sIsPart ["group", "other"]) (n_dots : Fn K mg "dots" sDots ["way"]) (n_isDark : Fn K mg "is_dark" sIsDark ["mode", "dot", "group"]) (n_lightOf : Fn K mg "light_of" sLightOf ["mode", "table", "group"]) (n_light : Fn K mg "light" sLight ["way", "tone", "group"]) (n_cutOf : Fn K mg "cut_of" sCutOf ["table", "group"]) (n_inLots : Fn K mg "in_lots" sInLots ["things"]) (n_told : Fn K mg "told" sTold ["way", "group"]) (n_shown : Fn K mg "shown" sShown ["way", "group"]) (n_unlike : Fn K mg "unlike_part" sUnlike ["way", "one", "other", "group"]) (n_isBlind : Fn K mg "is_blind" sIsBlind ["way", "group"]) (n_greatest : Fn K mg "greatest" sGreatest ["some"]) (n_least : Fn K mg "least" sLeast ["some"]) (n_blind : Fn K mg "blind" sBlind ["way"]) (n_sighted : Fn K mg "sighted" sSighted ["way"]) (n_sortedWay : Fn K mg "sorted_way" sSortedWay ["holders", "mode", "tables"]) (n_beside : Fn K mg "beside" sBeside ["one", "other"]) (n_merged : Fn K mg "merged" sMerged ["way", "lots"]) (n_exch : Fn K mg "exchanged" sExch ["way", "order"]) (n_toned : Fn K mg "toned" sToned ["way", "tones"]) (n_orders : Fn K mg "orders_of" sOrders ["holders"]) (n_likeness : Fn K mg "likeness" sLikeness ["one", "other"]) (n_firstForm : Fn K mg "first_form" sFirstForm ["way"]) (n_swapped : Fn K mg "swapped" sSwapped ["holders", "one", "other"]) (n_equals : Fn K mg "equals" sEquals ["way"]) (n_tableBy : Fn K mg "table_by" sTableBy ["holders", "numbers"]) (n_slim : Fn K mg "slim" sSlim ["way"]) (n_bag : Fn K mg "_law_bag" sBag ["_law_script"]) (n_draw : Fn K mg "_law_draw" sDraw ["_law_bag_here", "_law_many"]) (n_pick : Fn K mg "_law_pick" sPick ["_law_bag_here", "_law_items"]) (n_mixed : Fn K mg "_law_mixed" sMixed ["_law_bag_here", "_law_many"]) (n_lawGroups : Fn K mg "_law_groups" sLawGroups ["_law_holders"]) (n_table : Fn K mg "_law_table" sTable ["_law_bag_here", "_law_holders", "_law_many"]) (n_way : Fn K mg "_law_way" sWay ["_law_bag_here", "_law_holders", "_law_tones", "_law_many"]) (n_led : Fn K mg "_law_led" sLed ["_law_order", "_law_group"]) (n_back : Fn K mg "_law_back" sBack ["_law_order", "_law_lots"]) (n_seen : Fn K mg "_law_seen_right" sSeen ["_law_way_here", "_law_order"]) (n_eqR : Fn K mg "_law_equals_right" sEqR ["_law_way_here"]) (B : Bi mg) (hx : mg "MAX_DOTS" = some (.int 400 t0)) :
    ∃ fd : FuncData, (∀ (s : Shared) (v : Value), BindsTo s fd ⟨[v], []⟩ [("_law_script", v)]) ∧ ∀ base : Heap, K.In base → base.Ns mainGlobals mg → FnOk l.prog w K mg base CX0 7 fa fd ["_law_script"] (spLaw K) := by
  have e := hfa.symm.trans (PySem.W.mg_of X G a)
  cases e
  have FL := fun_mk (st := sLaw) lk c k
  refine ⟨PySem.W.fnOf "law" "law" (defArgs sLaw) (defBody sLaw) (defScope sLaw) .none kV dc pm an cd ct, fun s v => .of_eq rfl, fun base _ _ => ?_⟩
  obtain ⟨fb, fdb, b1, b2, b3, b4⟩ := n_bag
  have kbag : FnOk l.prog w K mg base CX0 1 fb fdb ["_law_script"] (spBag K) := ok_bag b1 B
  have kparts : Cal l.prog w K mg base 1 "parts" ["group"] fParts := c_parts n_parts B
  have kisPart : Cal l.prog w K mg base 1 "is_part" ["group", "other"] fIsPart := c_isPart n_isPart B
  have kdots : Cal l.prog w K mg base 1 "dots" ["way"] fDots := c_dots n_dots B
  have kisDark : Cal l.prog w K mg base 1 "is_dark" ["mode", "dot", "group"] fIsDark := c_isDark n_isDark B
  have kcutOf : Cal l.prog w K mg base 1 "cut_of" ["table", "group"] fCutOf := c_cutOf n_cutOf B
  have kinLots : Cal l.prog w K mg base 1 "in_lots" ["things"] fInLots := c_inLots n_inLots B
  have ksortedWay : Cal l.prog w K mg base 1 "sorted_way" ["holders", "mode", "tables"] fSortedWay := c_sortedWay n_sortedWay B
  have ktoned : Cal l.prog w K mg base 1 "toned" ["way", "tones"] fToned := c_toned n_toned B
  have korders : Cal l.prog w K mg base 1 "orders_of" ["holders"] fOrders := c_orders n_orders B
  have kswapped : Cal l.prog w K mg base 1 "swapped" ["holders", "one", "other"] fSwapped := c_swapped n_swapped B
  have klawGroups : Cal l.prog w K mg base 1 "_law_groups" ["_law_holders"] fLawGroups := c_lawGroups n_lawGroups B
  have kled : Cal l.prog w K mg base 1 "_law_led" ["_law_order", "_law_group"] fLed := c_led n_led B
  have kback : Cal l.prog w K mg base 1 "_law_back" ["_law_order", "_law_lots"] fBack := c_back n_back B
  have kdraw : CalB l.prog w K mg base 1 "_law_draw" ["_law_bag_here", "_law_many"] preDraw (fun _ => 1) postDraw := c_draw n_draw B
  have kgroups : Cal l.prog w K mg base 2 "groups" ["holders"] fGroups := c_groups n_groups B kparts
  have klightOf : Cal l.prog w K mg base 2 "light_of" ["mode", "table", "group"] fLightOf := c_lightOf n_lightOf B kisDark
  have ktold : Cal l.prog w K mg base 2 "told" ["way", "group"] fTold := c_told n_told kcutOf kinLots
  have kgreatest : Cal l.prog w K mg base 2 "greatest" ["some"] fGreatest := c_greatest n_greatest B kisPart
  have kleast : Cal l.prog w K mg base 2 "least" ["some"] fLeast := c_least n_least B kisPart
  have kbeside : Cal l.prog w K mg base 2 "beside" ["one", "other"] fBeside := c_beside n_beside B hx kdots ksortedWay
  have kpick : CalB l.prog w K mg base 2 "_law_pick" ["_law_bag_here", "_law_items"] prePick (fun _ => 1) postPick := c_pick n_pick B kdraw
  have kmixed : CalB l.prog w K mg base 2 "_law_mixed" ["_law_bag_here", "_law_many"] preMixed (fun _ => 5) postMixed := c_mixed n_mixed B kdraw
  have klight : Cal l.prog w K mg base 3 "light" ["way", "tone", "group"] fLight := c_light n_light klightOf
  have kshown : Cal l.prog w K mg base 3 "shown" ["way", "group"] fShown := c_shown n_shown klightOf (kinLots.mono (by decide))
  have kisBlind : Cal l.prog w K mg base 3 "is_blind" ["way", "group"] fIsBlind := c_isBlind n_isBlind B ktold
  have kmerged : Cal l.prog w K mg base 3 "merged" ["way", "lots"] fMerged := c_merged n_merged B kgroups (ksortedWay.mono (by decide)) (kisDark.mono (by decide))
  have ktableBy : Cal l.prog w K mg base 3 "table_by" ["holders", "numbers"] fTableBy := c_tableBy n_tableBy B kgroups
  have ktable : CalB l.prog w K mg base 3 "_law_table" ["_law_bag_here", "_law_holders", "_law_many"] preTable (fun _ => 203) postTable := c_table n_table B kpick (klawGroups.mono (by decide))
  have kunlike : Cal l.prog w K mg base 4 "unlike_part" ["way", "one", "other", "group"] fUnlike := c_unlike n_unlike B (kparts.mono (by decide)) klight
  have kblind : Cal l.prog w K mg base 4 "blind" ["way"] fBlind := c_blind n_blind (kgreatest.mono (by decide)) (kgroups.mono (by decide)) kisBlind
  have ksighted : Cal l.prog w K mg base 3 "sighted" ["way"] fSighted := c_sighted n_sighted B kleast kgroups ktold
  have kexch : Cal l.prog w K mg base 4 "exchanged" ["way", "order"] fExch := c_exch n_exch B kmerged
  have kslim : Cal l.prog w K mg base 4 "slim" ["way"] fSlim := c_slim n_slim B (kgroups.mono (by decide)) ktableBy
  have kway : CalB l.prog w K mg base 4 "_law_way" ["_law_bag_here", "_law_holders", "_law_tones", "_law_many"] preWay (fun _ => 2031) postWay := c_way n_way B (kpick.mono (by decide)) ktable
  have klikeness : Cal l.prog w K mg base 5 "likeness" ["one", "other"] fLikeness := c_likeness n_likeness (korders.mono (by decide)) kexch
  have kfirstForm : Cal l.prog w K mg base 5 "first_form" ["way"] fFirstForm := c_firstForm n_firstForm B (korders.mono (by decide)) kexch
  have kequals : Cal l.prog w K mg base 5 "equals" ["way"] fEquals := c_equals n_equals B (kswapped.mono (by decide)) kexch
  have kseen : Cal l.prog w K mg base 6 "_law_seen_right" ["_law_way_here", "_law_order"] fSeen := c_seen n_seen B (kexch.mono (by decide)) (kgroups.mono (by decide)) (kled.mono (by decide)) (ktold.mono (by decide)) (kshown.mono (by decide)) (klight.mono (by decide)) (kunlike.mono (by decide)) (kblind.mono (by decide)) (ksighted.mono (by decide)) kequals (kback.mono (by decide))
  have keqR : Cal l.prog w K mg base 6 "_law_equals_right" ["_law_way_here"] fEqR := c_eqR n_eqR B kequals (kgroups.mono (by decide)) (ktold.mono (by decide)) (klight.mono (by decide))
  exact ok_law FL B turn_ok str_ok (kbag.mono (by decide)) b2 b3 b4 (kdraw.mono (by decide)) (kway.mono (by decide)) (kmixed.mono (by decide)) (ktable.mono (by decide)) (kexch.mono (by decide)) (klikeness.mono (by decide)) (kfirstForm.mono (by decide)) kseen keqR (kbeside.mono (by decide)) (ktoned.mono (by decide)) (kslim.mono (by decide))
end
end K42
open PySem PySem.W PyProof.Rows
set_option maxHeartbeats 0 in
theorem PySem.Challenge.cw_clearsheets_k42_whole_ways_that_are_alik_holds : PySem.Challenge.rw_clearsheets_k42_whole_ways_that_are_alik.Holds := by
  w_on; o_law; k_head; (case hw => w_witness2)
  k_fill
  refine L2.walk_of (l := PySem.Challenge.rw_clearsheets_k42_whole_ways_that_are_alik) (n := 63) (k := 7) (x := "_law_script") (CX := fun _ => L2.CX0) (sp := fun w => K42.spLaw _) rfl (by decide) rfl ⟨rfl, by decide, by decide⟩ (fun w h Y => PySem.W.kIn_of Y) ?F (fun _ _ a ns hl _ hS => ⟨a, ns, rfl, hS, hl, fun _ => rfl⟩) (fun _ _ _ _ _ h => h)
  case F =>
    intro w mg fa h KX G hmg
    refine' K42.all_mk KX G hmg ?aL ?lL ?cL ?kL (K42.m_parts KX G ?a0 ?l0 ?c0 ?k0) (K42.m_groups KX G ?a1 ?l1 ?c1 ?k1) (K42.m_isPart KX G ?a2 ?l2 ?c2 ?k2) (K42.m_dots KX G ?a3 ?l3 ?c3 ?k3) (K42.m_isDark KX G ?a4 ?l4 ?c4 ?k4) (K42.m_lightOf KX G ?a5 ?l5 ?c5 ?k5) (K42.m_light KX G ?a6 ?l6 ?c6 ?k6) (K42.m_cutOf KX G ?a7 ?l7 ?c7 ?k7) (K42.m_inLots KX G ?a8 ?l8 ?c8 ?k8) (K42.m_told KX G ?a9 ?l9 ?c9 ?k9) (K42.m_shown KX G ?a10 ?l10 ?c10 ?k10) (K42.m_unlike KX G ?a11 ?l11 ?c11 ?k11) (K42.m_isBlind KX G ?a12 ?l12 ?c12 ?k12) (K42.m_greatest KX G ?a13 ?l13 ?c13 ?k13) (K42.m_least KX G ?a14 ?l14 ?c14 ?k14) (K42.m_blind KX G ?a15 ?l15 ?c15 ?k15) (K42.m_sighted KX G ?a16 ?l16 ?c16 ?k16) (K42.m_sortedWay KX G ?a17 ?l17 ?c17 ?k17) (K42.m_beside KX G ?a18 ?l18 ?c18 ?k18) (K42.m_merged KX G ?a19 ?l19 ?c19 ?k19) (K42.m_exch KX G ?a20 ?l20 ?c20 ?k20) (K42.m_toned KX G ?a21 ?l21 ?c21 ?k21) (K42.m_orders KX G ?a22 ?l22 ?c22 ?k22) (K42.m_likeness KX G ?a23 ?l23 ?c23 ?k23) (K42.m_firstForm KX G ?a24 ?l24 ?c24 ?k24) (K42.m_swapped KX G ?a25 ?l25 ?c25 ?k25) (K42.m_equals KX G ?a26 ?l26 ?c26 ?k26) (K42.m_tableBy KX G ?a27 ?l27 ?c27 ?k27) (K42.m_slim KX G ?a28 ?l28 ?c28 ?k28) (K42.m_bag KX G ?a29 ?l29 ?c29 ?k29) (K42.m_draw KX G ?a30 ?l30 ?c30 ?k30) (K42.m_pick KX G ?a31 ?l31 ?c31 ?k31) (K42.m_mixed KX G ?a32 ?l32 ?c32 ?k32) (K42.m_lawGroups KX G ?a33 ?l33 ?c33 ?k33) (K42.m_table KX G ?a34 ?l34 ?c34 ?k34) (K42.m_way KX G ?a35 ?l35 ?c35 ?k35) (K42.m_led KX G ?a36 ?l36 ?c36 ?k36) (K42.m_back KX G ?a37 ?l37 ?c37 ?k37) (K42.m_seen KX G ?a38 ?l38 ?c38 ?k38) (K42.m_eqR KX G ?a39 ?l39 ?c39 ?k39) ⟨PySem.W.mg_none_of KX G ?z0, PySem.W.mg_none_of KX G ?z1, PySem.W.mg_none_of KX G ?z2, PySem.W.mg_none_of KX G ?z3, PySem.W.mg_none_of KX G ?z4, PySem.W.mg_none_of KX G ?z5, PySem.W.mg_none_of KX G ?z6, PySem.W.mg_none_of KX G ?z7, PySem.W.mg_none_of KX G ?z8, PySem.W.mg_none_of KX G ?z9, PySem.W.mg_none_of KX G ?z10, PySem.W.mg_none_of KX G ?z11, PySem.W.mg_none_of KX G ?z12, PySem.W.mg_none_of KX G ?z13⟩ (PySem.W.mg_of KX G ?xM)
    (case aL => k_is); (case lL => k_is); (case cL => k_is); (case kL => k_is); (case a0 => k_is); (case l0 => k_is); (case c0 => k_is); (case k0 => k_is)
    (case a1 => k_is); (case l1 => k_is); (case c1 => k_is); (case k1 => k_is); (case a2 => k_is); (case l2 => k_is); (case c2 => k_is); (case k2 => k_is)
    (case a3 => k_is); (case l3 => k_is); (case c3 => k_is); (case k3 => k_is); (case a4 => k_is); (case l4 => k_is); (case c4 => k_is); (case k4 => k_is)
    (case a5 => k_is); (case l5 => k_is); (case c5 => k_is); (case k5 => k_is); (case a6 => k_is); (case l6 => k_is); (case c6 => k_is); (case k6 => k_is)
    (case a7 => k_is); (case l7 => k_is); (case c7 => k_is); (case k7 => k_is); (case a8 => k_is); (case l8 => k_is); (case c8 => k_is); (case k8 => k_is)
    (case a9 => k_is); (case l9 => k_is); (case c9 => k_is); (case k9 => k_is); (case a10 => k_is); (case l10 => k_is); (case c10 => k_is); (case k10 => k_is)
    (case a11 => k_is); (case l11 => k_is); (case c11 => k_is); (case k11 => k_is); (case a12 => k_is); (case l12 => k_is); (case c12 => k_is); (case k12 => k_is)
    (case a13 => k_is); (case l13 => k_is); (case c13 => k_is); (case k13 => k_is); (case a14 => k_is); (case l14 => k_is); (case c14 => k_is); (case k14 => k_is)
    (case a15 => k_is); (case l15 => k_is); (case c15 => k_is); (case k15 => k_is); (case a16 => k_is); (case l16 => k_is); (case c16 => k_is); (case k16 => k_is)
    (case a17 => k_is); (case l17 => k_is); (case c17 => k_is); (case k17 => k_is); (case a18 => k_is); (case l18 => k_is); (case c18 => k_is); (case k18 => k_is)
    (case a19 => k_is); (case l19 => k_is); (case c19 => k_is); (case k19 => k_is); (case a20 => k_is); (case l20 => k_is); (case c20 => k_is); (case k20 => k_is)
    (case a21 => k_is); (case l21 => k_is); (case c21 => k_is); (case k21 => k_is); (case a22 => k_is); (case l22 => k_is); (case c22 => k_is); (case k22 => k_is)
    (case a23 => k_is); (case l23 => k_is); (case c23 => k_is); (case k23 => k_is); (case a24 => k_is); (case l24 => k_is); (case c24 => k_is); (case k24 => k_is)
    (case a25 => k_is); (case l25 => k_is); (case c25 => k_is); (case k25 => k_is); (case a26 => k_is); (case l26 => k_is); (case c26 => k_is); (case k26 => k_is)
    (case a27 => k_is); (case l27 => k_is); (case c27 => k_is); (case k27 => k_is); (case a28 => k_is); (case l28 => k_is); (case c28 => k_is); (case k28 => k_is)
    (case a29 => k_is); (case l29 => k_is); (case c29 => k_is); (case k29 => k_is); (case a30 => k_is); (case l30 => k_is); (case c30 => k_is); (case k30 => k_is)
    (case a31 => k_is); (case l31 => k_is); (case c31 => k_is); (case k31 => k_is); (case a32 => k_is); (case l32 => k_is); (case c32 => k_is); (case k32 => k_is)
    (case a33 => k_is); (case l33 => k_is); (case c33 => k_is); (case k33 => k_is); (case a34 => k_is); (case l34 => k_is); (case c34 => k_is); (case k34 => k_is)
    (case a35 => k_is); (case l35 => k_is); (case c35 => k_is); (case k35 => k_is); (case a36 => k_is); (case l36 => k_is); (case c36 => k_is); (case k36 => k_is)
    (case a37 => k_is); (case l37 => k_is); (case c37 => k_is); (case k37 => k_is); (case a38 => k_is); (case l38 => k_is); (case c38 => k_is); (case k38 => k_is)
    (case a39 => k_is); (case l39 => k_is); (case c39 => k_is); (case k39 => k_is); (case z0 => k_is); (case z1 => k_is); (case z2 => k_is); (case z3 => k_is)
    (case z4 => k_is); (case z5 => k_is); (case z6 => k_is); (case z7 => k_is); (case z8 => k_is); (case z9 => k_is); (case z10 => k_is); (case z11 => k_is)
    (case z12 => k_is); (case z13 => k_is); (case xM => k_is)
