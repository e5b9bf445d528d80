import PyProof.Rows.All
import Wide.All
import OpenK.AllK
import Wide.FinOn
import PySem.PyData
import HandS.ForMost
import HandS.Walk
import HandS.TupAny
import HandS.Style
import HandS.Codes
import HandS.Defaults
import HandS.Wide
import HandS.IsInst
import HandS.NoneIn
import HandS.Conv
import HandS.SortRule
import HandS.Zip
import HandS.SetFor
import HandS.SortKw
import HandS.TupSets
import KE.SortData
import KE.DatumOrd
import HandS.Zip0
import HandS.Iter
import KE.KDictZip
import KE.GoesEnum
import KE.KDictDisplayH
import Lean
import HandS.HeadHook1
import HandS.HeadHook2
import PySem.Challenge.RW_rowsback_k99_whole_pebbles_and_held_numb
import HandS.Head0
import HandS.Head1
import HandS.Head2
import HandS.HeadEnd
import HandS.HeadHook4
section
set_option autoImplicit false
namespace Rb
open PySem
/-- a step of a row -/
inductive Stp where
  | inn (k : Nat) | st (c : Int) | neg (i : Nat) | add (i j : Nat) | sub (i j : Nat) | mul (i j : Nat)
  deriving DecidableEq
def Stp.word : Stp → Str
  | .inn _ => "in" | .st _ => "set" | .neg _ => "neg" | .add _ _ => "+" | .sub _ _ => "-" | .mul _ _ => "*"
def Stp.nums : Stp → List Int
  | .inn k => [(k : Int)] | .st c => [c] | .neg i => [(i : Int)] | .add i j => [(i : Int), (j : Int)] | .sub i j => [(i : Int), (j : Int)] | .mul i j => [(i : Int), (j : Int)]
/-- the steps that it reckons with -/
def Stp.uses : Stp → List Nat
  | .inn _ => [] | .st _ => [] | .neg i => [i] | .add i j => [i, j] | .sub i j => [i, j] | .mul i j => [i, j]
structure Row where
  inputs : Nat
  steps : List Stp
  ends : List Nat
def Row.step (r : Row) (i : Nat) : Stp := r.steps.getD i (.st 0)
def Row.uses (r : Row) (i : Nat) : List Nat := (r.step i).uses
/-- what all rows keep -/
structure Row.Ok (r : Row) : Prop where
  lt : ∀ (i : Nat) (s : Stp), r.steps[i]? = some s → ∀ u ∈ s.uses, u < i
  inn : ∀ (i k : Nat), r.steps[i]? = some (Stp.inn k) → k < r.inputs
  ends : ∀ e ∈ r.ends, e < r.steps.length
  ne : r.ends ≠ []
  len : r.steps.length ≤ 1000
  elen : r.ends.length ≤ 1000
theorem Row.Ok.use {r : Row} (h : r.Ok) {i u : Nat} (hu : u ∈ r.uses i) : u < i := by
  unfold Row.uses Row.step at hu
  rw [List.getD_eq_getElem?_getD] at hu
  cases e : r.steps[i]? with
  | none => rw [e] at hu; simp [Stp.uses] at hu
  | some s => rw [e] at hu; exact h.lt i s e u hu
/-! ### sizes, values -/
def Stp.measure (s : Stp) (found : List Int) (least : Int) : Int := match s with
  | .inn _ => 1 | .st _ => least | .neg i => found.getD i 0 | .mul i j => found.getD i 0 + found.getD j 0
  | .add i j => max (found.getD i 0) (found.getD j 0) | .sub i j => max (found.getD i 0) (found.getD j 0)
def sizesOf (steps : List Stp) : List Int := steps.foldl (fun f s => f ++ [s.measure f 1]) []
def Stp.value (s : Stp) (point found : List Int) : Int := match s with
  | .inn k => point.getD k 0 | .st c => c | .neg i => 0 - found.getD i 0 | .add i j => found.getD i 0 + found.getD j 0 | .sub i j => found.getD i 0 - found.getD j 0
  | .mul i j => found.getD i 0 * found.getD j 0
def valuesOf (steps : List Stp) (point : List Int) : List Int := steps.foldl (fun f s => f ++ [s.value point f]) []
def told (r : Row) (point : List Int) : List Int := r.ends.map fun e => (valuesOf r.steps point).getD e 0
theorem sizesOf_snoc (xs : List Stp) (s : Stp) : sizesOf (xs ++ [s]) = sizesOf xs ++ [s.measure (sizesOf xs) 1] := by
  unfold sizesOf
  rw [List.foldl_append]
  rfl
theorem valuesOf_snoc (xs : List Stp) (p : List Int) (s : Stp) : valuesOf (xs ++ [s]) p = valuesOf xs p ++ [s.value p (valuesOf xs p)] := by
  unfold valuesOf
  rw [List.foldl_append]
  rfl
theorem fold_len {α β : Type} (g : List β → α → β) : ∀ (xs : List α) (f : List β), (xs.foldl (fun f s => f ++ [g f s]) f).length = f.length + xs.length
  | [], f => by simp
  | x :: xs, f => by
    rw [List.foldl_cons, fold_len g xs]
    simp
    omega
theorem sizesOf_len (xs : List Stp) : (sizesOf xs).length = xs.length := by
  unfold sizesOf
  rw [fold_len (fun f (s : Stp) => s.measure f 1)]
  simp
theorem valuesOf_len (xs : List Stp) (p : List Int) : (valuesOf xs p).length = xs.length := by
  unfold valuesOf
  rw [fold_len (fun f (s : Stp) => s.value p f)]
  simp
theorem take_snoc {α : Type} {xs : List α} {i : Nat} {x : α} (h : xs[i]? = some x) : xs.take (i + 1) = xs.take i ++ [x] := by
  rw [List.take_succ, h]
  rfl
/-! ### needed steps -/
def markAll (f : List Bool) (us : List Nat) : List Bool := us.foldl (fun f u => f.set u true) f
def needTurn (r : Row) (f : List Bool) (i : Nat) : List Bool := if f.getD i false = true then markAll f (r.uses i) else f
def needStart (r : Row) : List Bool := (List.range r.steps.length).map fun i => decide (i ∈ r.ends)
def needAt (r : Row) (k : Nat) : List Bool := (List.range k).foldl (fun f k => needTurn r f (r.steps.length - 1 - k)) (needStart r)
def needs (r : Row) : List Bool := needAt r r.steps.length
def needed (r : Row) : List Nat := (List.range r.steps.length).filter fun i => (needs r).getD i false
theorem markAll_snoc (f : List Bool) (us : List Nat) (u : Nat) : markAll f (us ++ [u]) = (markAll f us).set u true := by
  unfold markAll
  rw [List.foldl_append]
  rfl
theorem markAll_len : ∀ (us : List Nat) (f : List Bool), (markAll f us).length = f.length
  | [], _ => rfl
  | u :: us, f => by
    show (markAll (f.set u true) us).length = f.length
    rw [markAll_len us, List.length_set]
theorem needAt_succ (r : Row) (k : Nat) : needAt r (k + 1) = needTurn r (needAt r k) (r.steps.length - 1 - k) := by
  unfold needAt
  rw [List.range_succ, List.foldl_append]
  rfl
theorem needAt_len (r : Row) : ∀ k, (needAt r k).length = r.steps.length
  | 0 => by simp [needAt, needStart]
  | k + 1 => by
    rw [needAt_succ, needTurn]
    split
    · rw [markAll_len, needAt_len r k]
    · exact needAt_len r k
theorem filter_zipIdx (bs : List Bool) : ∀ (l : List Bool) (n : Nat), (∀ i, l[i]? = bs[n + i]?) → ((l.zipIdx n).filter fun p => p.1).map (·.2) = ((List.range' n l.length).filter fun i => bs.getD i false)
  | [], n, _ => rfl
  | b :: l, n, h => by
    have h0 := h 0
    have ih := filter_zipIdx bs l (n + 1) (fun i => by have := h (i + 1); simpa [Nat.add_assoc, Nat.add_comm 1 i] using this)
    have hb : bs.getD n false = b := by
      rw [List.getD_eq_getElem?_getD]
      have : bs[n]? = some b := by simpa using h0.symm
      rw [this]; rfl
    rw [List.zipIdx_cons, List.length_cons, List.range'_succ, List.filter_cons, List.filter_cons, hb]
    cases b with
    | true => simpa using ih
    | false => simpa using ih
theorem needed_eq (r : Row) : needed r = (((needs r).zipIdx).filter fun p => p.1).map (·.2) := by
  have h := filter_zipIdx (needs r) (needs r) 0 (fun i => by rw [Nat.zero_add])
  rw [h, needs, needAt_len]
  unfold needed needs
  rw [List.range_eq_range']
end Rb
end
section
set_option autoImplicit false
namespace Rb
open PySem
/-! ### which steps are needed -/
theorem markAll_get (i : Nat) : ∀ (us : List Nat) (f : List Bool), (markAll f us).getD i false = true ↔ f.getD i false = true ∨ (i ∈ us ∧ i < f.length)
  | [], f => by simp [markAll]
  | u :: us, f => by
    show (markAll (f.set u true) us).getD i false = true ↔ _
    rw [markAll_get i us, List.length_set, List.getD_eq_getElem?_getD, List.getD_eq_getElem?_getD, List.getElem?_set]
    by_cases e : u = i
    · subst e
      by_cases h : u < f.length
      · simp [h]
      · simp [h]
    · have e' : ¬ i = u := fun z => e z.symm
      simp [e, e']
theorem needStart_get (r : Row) {i : Nat} (h : i < r.steps.length) : (needStart r).getD i false = true ↔ i ∈ r.ends := by
  unfold needStart
  rw [List.getD_eq_getElem?_getD, List.getElem?_map, List.getElem?_range h]
  simp
theorem needTurn_get (r : Row) (f : List Bool) (hl : f.length = r.steps.length) (k : Nat) {i : Nat} (h : i < r.steps.length) : (needTurn r f k).getD i false = true ↔ f.getD i false = true ∨ (f.getD k false = true ∧ i ∈ r.uses k) := by
  unfold needTurn
  split
  · rename_i e
    rw [markAll_get, hl]
    simp only [e, true_and, h, and_true]
  · rename_i e
    simp only [e, Bool.false_eq_true, false_and, or_false]
theorem needAt_inv {r : Row} (ok : r.Ok) : ∀ k, k ≤ r.steps.length → ∀ i, i < r.steps.length → ((needAt r k).getD i false = true ↔ i ∈ r.ends ∨ ∃ y, r.steps.length - k ≤ y ∧ y < r.steps.length ∧ (needAt r k).getD y false = true ∧ i ∈ r.uses y)
  | 0, _, i, hi => by
    have : needAt r 0 = needStart r := rfl
    rw [this, needStart_get r hi]
    constructor
    · exact .inl
    · rintro (h | ⟨y, h1, h2, _⟩)
      · exact h
      · omega
  | k + 1, hk, i, hi => by
    have ih := needAt_inv ok k (by omega)
    have hl := needAt_len r k
    rw [needAt_succ, needTurn_get r _ hl _ hi, ih i hi]
    have keep : ∀ y, r.steps.length - 1 - k ≤ y → y < r.steps.length → ((needTurn r (needAt r k) (r.steps.length - 1 - k)).getD y false = true ↔ (needAt r k).getD y false = true) := fun y h1 h2 => by
      rw [needTurn_get r _ hl _ h2]
      constructor
      · rintro (h | ⟨_, h⟩)
        · exact h
        · have := ok.use h; omega
      · exact .inl
    constructor
    · rintro ((h | ⟨y, h1, h2, h3, h4⟩) | ⟨h, h'⟩)
      · exact .inl h
      · exact .inr ⟨y, by omega, h2, (keep y (by omega) h2).mpr h3, h4⟩
      · exact .inr ⟨r.steps.length - 1 - k, by omega, by omega, (keep _ (by omega) (by omega)).mpr h, h'⟩
    · rintro (h | ⟨y, h1, h2, h3, h4⟩)
      · exact .inl (.inl h)
      · have h3' := (keep y (by omega) h2).mp h3
        by_cases e : y = r.steps.length - 1 - k
        · subst e
          exact .inr ⟨h3', h4⟩
        · exact .inl (.inr ⟨y, by omega, h2, h3', h4⟩)
theorem mem_needed {r : Row} {x : Nat} : x ∈ needed r ↔ x < r.steps.length ∧ (needs r).getD x false = true := by
  unfold needed
  rw [List.mem_filter, List.mem_range]
theorem nd_iff {r : Row} (ok : r.Ok) {x : Nat} : x ∈ needed r ↔ x ∈ r.ends ∨ ∃ y ∈ needed r, x ∈ r.uses y := by
  have inv := needAt_inv ok r.steps.length (Nat.le_refl _)
  constructor
  · intro h
    obtain ⟨h1, h2⟩ := mem_needed.mp h
    rcases (inv x h1).mp h2 with h | ⟨y, _, h3, h4, h5⟩
    · exact .inl h
    · exact .inr ⟨y, mem_needed.mpr ⟨h3, h4⟩, h5⟩
  · rintro (h | ⟨y, h1, h2⟩)
    · have hx := ok.ends x h
      exact mem_needed.mpr ⟨hx, (inv x hx).mpr (.inl h)⟩
    · obtain ⟨h3, h4⟩ := mem_needed.mp h1
      have hx : x < r.steps.length := Nat.lt_trans (ok.use h2) h3
      exact mem_needed.mpr ⟨hx, (inv x hx).mpr (.inr ⟨y, by omega, h3, h4, h2⟩)⟩
theorem nd_use {r : Row} (ok : r.Ok) {x u : Nat} (h : x ∈ needed r) (hu : u ∈ r.uses x) : u ∈ needed r := (nd_iff ok).mpr (.inr ⟨x, h, hu⟩)
theorem nd_end {r : Row} (ok : r.Ok) {x : Nat} (h : x ∈ r.ends) : x ∈ needed r := (nd_iff ok).mpr (.inl h)
theorem nd_lt {r : Row} {x : Nat} (h : x ∈ needed r) : x < r.steps.length := (mem_needed.mp h).1
theorem needed_rising (r : Row) : (needed r).Pairwise (· < ·) := List.Pairwise.filter _ List.pairwise_lt_range
theorem needed_nodup (r : Row) : (needed r).Nodup := (needed_rising r).imp fun h => Nat.ne_of_lt h
theorem needed_len (r : Row) : (needed r).length ≤ r.steps.length := by
  unfold needed
  have := List.length_filter_le (fun i => (needs r).getD i false) (List.range r.steps.length)
  rwa [List.length_range] at this
/-- only one set is so -/
theorem nd_unique {r : Row} (ok : r.Ok) {S : Nat → Prop} (h : ∀ x, S x ↔ x ∈ r.ends ∨ ∃ y, S y ∧ x ∈ r.uses y) (hS : ∀ x, S x → x < r.steps.length) : ∀ x, S x ↔ x ∈ needed r := by
  have key : ∀ n x, r.steps.length - x ≤ n → (S x ↔ x ∈ needed r) := by
    intro n
    induction n with
    | zero =>
      intro x hx
      constructor
      · intro q; have := hS x q; omega
      · intro q; have := nd_lt q; omega
    | succ n ih =>
      intro x hx
      rw [h x, nd_iff ok]
      constructor
      · rintro (q | ⟨y, q1, q2⟩)
        · exact .inl q
        · have := ok.use q2
          exact .inr ⟨y, (ih y (by omega)).mp q1, q2⟩
      · rintro (q | ⟨y, q1, q2⟩)
        · exact .inl q
        · have := ok.use q2
          exact .inr ⟨y, (ih y (by omega)).mpr q1, q2⟩
  exact fun x => key _ x (Nat.le_refl _)
/-! ### sets as rising lists -/
def insN (x : Nat) : List Nat → List Nat
  | [] => [x]
  | y :: ys => if x < y then x :: y :: ys else if x = y then y :: ys else y :: insN x ys
def setN (l : List Nat) : List Nat := l.foldr insN []
theorem mem_insN {x z : Nat} : ∀ {l : List Nat}, z ∈ insN x l ↔ z = x ∨ z ∈ l
  | [] => by simp [insN]
  | y :: ys => by
    unfold insN
    split
    · simp
    · split
      · rename_i h; subst h; simp
      · rw [List.mem_cons, mem_insN, List.mem_cons]
        constructor
        · rintro (h | h | h)
          · exact .inr (.inl h)
          · exact .inl h
          · exact .inr (.inr h)
        · rintro (h | h | h)
          · exact .inr (.inl h)
          · exact .inl h
          · exact .inr (.inr h)
theorem insN_rising {x : Nat} : ∀ {l : List Nat}, l.Pairwise (· < ·) → (insN x l).Pairwise (· < ·)
  | [], _ => by simp [insN]
  | y :: ys, h => by
    obtain ⟨h1, h2⟩ := List.pairwise_cons.mp h
    unfold insN
    split
    · rename_i hx
      refine List.pairwise_cons.mpr ⟨fun z hz => ?_, h⟩
      rcases List.mem_cons.mp hz with rfl | hz
      · exact hx
      · exact Nat.lt_trans hx (h1 z hz)
    · split
      · exact h
      · rename_i a b
        refine List.pairwise_cons.mpr ⟨fun z hz => ?_, insN_rising h2⟩
        rcases mem_insN.mp hz with rfl | hz
        · omega
        · exact h1 z hz
theorem mem_setN {z : Nat} : ∀ {l : List Nat}, z ∈ setN l ↔ z ∈ l
  | [] => by simp [setN]
  | x :: l => by
    show z ∈ insN x (setN l) ↔ _
    rw [mem_insN, mem_setN, List.mem_cons]
theorem setN_rising : ∀ l : List Nat, (setN l).Pairwise (· < ·)
  | [] => List.Pairwise.nil
  | x :: l => insN_rising (setN_rising l)
theorem setN_nodup (l : List Nat) : (setN l).Nodup := (setN_rising l).imp fun h => Nat.ne_of_lt h
theorem insN_len (x : Nat) : ∀ l : List Nat, (insN x l).length ≤ l.length + 1
  | [] => by simp [insN]
  | y :: ys => by
    unfold insN
    split
    · simp
    · split
      · simp
      · have := insN_len x ys
        simp
        omega
theorem setN_len : ∀ l : List Nat, (setN l).length ≤ l.length
  | [] => by simp [setN]
  | x :: l => by
    show (insN x (setN l)).length ≤ _
    have h1 := insN_len x (setN l)
    have h2 := setN_len l
    simp only [List.length_cons]
    omega
def kids (r : Row) (x : Nat) : List Nat := setN (r.uses x)
def roots (r : Row) : List Nat := setN r.ends
theorem mem_kids {r : Row} {x y : Nat} : y ∈ kids r x ↔ y ∈ r.uses x := mem_setN
theorem uses_len (r : Row) (x : Nat) : (r.uses x).length ≤ 2 := by
  unfold Row.uses
  cases r.step x <;> simp [Stp.uses]
theorem kids_len (r : Row) (x : Nat) : (kids r x).length ≤ 2 := Nat.le_trans (setN_len _) (uses_len r x)
/-! ### who uses, what is held -/
def users (r : Row) (x : Nat) : List Nat := (needed r).filter fun y => decide (x ∈ r.uses y)
def heldOf (r : Row) (l : List Nat) : List Nat := l.filter fun x => decide (x ∈ r.ends) || !((users r x).all fun y => decide (y ∈ l))
def heldRows (r : Row) (o : List Nat) : List (List Nat) := (List.range o.length).map fun t => heldOf r (o.take (t + 1))
def heldNums (r : Row) (o : List Nat) : List Nat := (heldRows r o).map List.length
def maxL (l : List Nat) : Nat := l.foldr max 0
def loadOf (r : Row) (o : List Nat) : Nat := maxL (heldNums r o)
/-- an order of the needed steps -/
structure IsOrd (r : Row) (o : List Nat) : Prop where
  perm : o.Perm (needed r)
  uses : ∀ (t x : Nat), o[t]? = some x → ∀ u ∈ r.uses x, u ∈ o.take t
def isWood (r : Row) : Bool := (needed r).all fun x => decide ((users r x).length = if x ∈ r.ends then 0 else 1)
/-! ### slots -/
def lookN (o s : List Nat) (x : Nat) : Nat := s.getD (o.idxOf x) 0
/-- the least number that is not in l -/
def mexN (l : List Nat) : Nat := ((List.range (l.length + 1)).filter fun n => !decide (n ∈ l)).headD 0
def takenAt (r : Row) (o s : List Nat) (i : Nat) : List Nat := ((heldOf r (o.take i)).filter fun x => decide (x ∈ heldOf r (o.take (i + 1)))).map (lookN o s)
def slotsUp (r : Row) (o : List Nat) : Nat → List Nat
  | 0 => []
  | i + 1 => slotsUp r o i ++ [mexN (takenAt r o (slotsUp r o i) i)]
def slotsOf (r : Row) (o : List Nat) : List Nat := slotsUp r o o.length
theorem slotsUp_len (r : Row) (o : List Nat) : ∀ i, (slotsUp r o i).length = i
  | 0 => rfl
  | i + 1 => by simp [slotsUp, slotsUp_len r o i]
/-! ### trees -/
/-- the greatest of need + place, the list falling -/
def stk : List Nat → Nat
  | [] => 0
  | a :: l => max a (stk l + 1)
def sortD (l : List Nat) : List Nat := l.mergeSort (fun a b => decide (b ≤ a))
def comb (l : List Nat) : Nat := if l = [] then 1 else stk (sortD l)
def needStep (r : Row) (f : Nat → Nat) (x : Nat) : Nat → Nat := fun y => if y = x then comb ((kids r x).map f) else f y
def needFn (r : Row) : Nat → Nat := (needed r).foldl (needStep r) fun _ => 0
/-! ### lots -/
def lastOnes (r : Row) (l : List Nat) : List Nat := l.filter fun x => !((users r x).any fun y => decide (y ∈ l))
def without (l : List Nat) (x : Nat) : List Nat := l.filter fun y => !decide (y = x)
def minL (l : List Nat) : Nat := match l with
  | [] => 0
  | a :: l => l.foldl min a
def bestF (r : Row) : Nat → List Nat → Nat
  | 0, _ => 0
  | n + 1, l => max (minL ((lastOnes r l).map fun x => bestF r n (without l x))) (heldOf r l).length
def countF (r : Row) (most : Nat) : Nat → List Nat → Nat
  | 0, _ => 1
  | n + 1, l => if (heldOf r l).length ≤ most then ((lastOnes r l).map fun x => countF r most n (without l x)).sum else 0
def bestOf (r : Row) (l : List Nat) : Nat := bestF r l.length l
def countOf (r : Row) (most : Nat) (l : List Nat) : Nat := countF r most l.length l
def leastLoad (r : Row) : Nat := if isWood r then stk (sortD ((roots r).map (needFn r))) else bestOf r (needed r)
/-- a lot that can be: rising, of needed steps, closed downward -/
structure Lot (r : Row) (l : List Nat) : Prop where
  rise : l.Pairwise (· < ·)
  sub : ∀ x ∈ l, x ∈ needed r
  down : ∀ x ∈ l, ∀ u ∈ r.uses x, u ∈ l
end Rb
end
section
set_option autoImplicit false
namespace Rb
open PySem
theorem nodup_sub_len {α : Type} [DecidableEq α] : ∀ {l m : List α}, l.Nodup → (∀ x ∈ l, x ∈ m) → l.length ≤ m.length
  | [], _, _, _ => Nat.zero_le _
  | x :: l, m, hn, h => by
    obtain ⟨h1, h2⟩ := List.nodup_cons.mp hn
    have hx := h x List.mem_cons_self
    have ih := nodup_sub_len (l := l) (m := m.erase x) h2 fun y hy => (List.mem_erase_of_ne (fun z => h1 (by rw [← z]; exact hy))).mpr (h y (List.mem_cons_of_mem _ hy))
    rw [List.length_erase_of_mem hx] at ih
    have := List.length_pos_of_mem hx
    simp only [List.length_cons]
    omega
theorem mexN_spec (l : List Nat) : mexN l ∈ (List.range (l.length + 1)).filter (fun n => !decide (n ∈ l)) ∧ ∀ y ∈ (List.range (l.length + 1)).filter (fun n => !decide (n ∈ l)), mexN l ≤ y := by
  have hr : ((List.range (l.length + 1)).filter fun n => !decide (n ∈ l)).Pairwise (· < ·) := List.Pairwise.filter _ List.pairwise_lt_range
  have hne : ((List.range (l.length + 1)).filter fun n => !decide (n ∈ l)) ≠ [] := fun e => by
    have h := nodup_sub_len (l := List.range (l.length + 1)) (m := l) List.nodup_range fun x hx => by
      have := List.filter_eq_nil_iff.mp e x hx
      simpa using this
    rw [List.length_range] at h
    omega
  unfold mexN
  revert hr hne
  generalize ((List.range (l.length + 1)).filter fun n => !decide (n ∈ l)) = m
  intro hr hne
  cases m with
  | nil => exact absurd rfl hne
  | cons a m =>
    refine ⟨List.mem_cons_self, fun y hy => ?_⟩
    rcases List.mem_cons.mp hy with rfl | hy
    · exact Nat.le_refl _
    · exact Nat.le_of_lt ((List.pairwise_cons.mp hr).1 y hy)
theorem mexN_not (l : List Nat) : mexN l ∉ l := by
  have := (List.mem_filter.mp (mexN_spec l).1).2
  simpa using this
theorem mexN_le (l : List Nat) : mexN l ≤ l.length := by
  have := List.mem_range.mp (List.mem_filter.mp (mexN_spec l).1).1
  omega
theorem idxOf_get {o : List Nat} (h : o.Nodup) {j x : Nat} (e : o[j]? = some x) : o.idxOf x = j := by
  have hx : x ∈ o := List.mem_of_getElem? e
  have h1 := List.idxOf_lt_length_of_mem hx
  have h2 : o[o.idxOf x] = x := List.getElem_idxOf h1
  obtain ⟨h3, h4⟩ := List.getElem?_eq_some_iff.mp e
  exact (List.getElem_inj h).mp (h2.trans h4.symm)
theorem lookN_get {o s : List Nat} (h : o.Nodup) {j x v : Nat} (e : o[j]? = some x) (e' : s[j]? = some v) : lookN o s x = v := by
  unfold lookN
  rw [idxOf_get h e, List.getD_eq_getElem?_getD, e']
  rfl
theorem map_lookN {o s : List Nat} (h : o.Nodup) (hl : s.length = o.length) : o.map (lookN o s) = s := by
  refine List.ext_getElem? fun j => ?_
  rw [List.getElem?_map]
  cases e : o[j]? with
  | none =>
    have := List.getElem?_eq_none_iff.mp e
    rw [List.getElem?_eq_none (by omega)]
    rfl
  | some x =>
    have hj := (List.getElem?_eq_some_iff.mp e).1
    have e' : s[j]? = some s[j] := List.getElem?_eq_getElem (by omega)
    rw [e', Option.map_some, lookN_get h e e']
theorem le_maxL : ∀ {l : List Nat} {x : Nat}, x ∈ l → x ≤ maxL l
  | y :: l, x, h => by
    show x ≤ max y (maxL l)
    rcases List.mem_cons.mp h with rfl | h
    · exact Nat.le_max_left _ _
    · exact Nat.le_trans (le_maxL h) (Nat.le_max_right _ _)
theorem maxL_mem : ∀ {l : List Nat}, l ≠ [] → maxL l ∈ l
  | [], h => absurd rfl h
  | [x], _ => by show max x 0 ∈ [x]; rw [Nat.max_zero]; exact List.mem_singleton_self x
  | x :: y :: l, _ => by
    have ih := maxL_mem (l := y :: l) (by simp)
    show max x (maxL (y :: l)) ∈ _
    rcases Nat.le_total x (maxL (y :: l)) with h | h
    · rw [Nat.max_eq_right h]; exact List.mem_cons_of_mem _ ih
    · rw [Nat.max_eq_left h]; exact List.mem_cons_self
theorem maxL_le {l : List Nat} {k : Nat} (h : ∀ x ∈ l, x ≤ k) : maxL l ≤ k := by
  induction l with
  | nil => exact Nat.zero_le _
  | cons x l ih => exact Nat.max_le.mpr ⟨h x List.mem_cons_self, ih fun y hy => h y (List.mem_cons_of_mem _ hy)⟩
theorem heldOf_sub {r : Row} {l : List Nat} {x : Nat} (h : x ∈ heldOf r l) : x ∈ l := (List.mem_filter.mp h).1
theorem IsOrd.nodup {r : Row} {o : List Nat} (h : IsOrd r o) : o.Nodup := h.perm.nodup_iff.mpr (needed_nodup r)
theorem IsOrd.len {r : Row} {o : List Nat} (h : IsOrd r o) : o.length = (needed r).length := h.perm.length_eq
theorem IsOrd.mem {r : Row} {o : List Nat} (h : IsOrd r o) {x : Nat} : x ∈ o ↔ x ∈ needed r := h.perm.mem_iff
theorem minL_le {l : List Nat} {x : Nat} (h : x ∈ l) : minL l ≤ x := by
  cases l with
  | nil => cases h
  | cons a l =>
    have key : ∀ (l : List Nat) (a : Nat), l.foldl min a ≤ a ∧ ∀ y ∈ l, l.foldl min a ≤ y := by
      intro l
      induction l with
      | nil => intro a; exact ⟨Nat.le_refl _, fun y hy => absurd hy (by simp)⟩
      | cons b l ih =>
        intro a
        obtain ⟨h1, h2⟩ := ih (min a b)
        refine ⟨Nat.le_trans h1 (Nat.min_le_left _ _), fun y hy => ?_⟩
        rcases List.mem_cons.mp hy with rfl | hy
        · exact Nat.le_trans h1 (Nat.min_le_right _ _)
        · exact h2 y hy
    rcases List.mem_cons.mp h with rfl | h
    · exact (key l _).1
    · exact (key l a).2 x h
theorem minL_mem {l : List Nat} (h : l ≠ []) : minL l ∈ l := by
  cases l with
  | nil => exact absurd rfl h
  | cons a l =>
    have key : ∀ (l : List Nat) (a : Nat), l.foldl min a ∈ a :: l := by
      intro l
      induction l with
      | nil => intro a; exact List.mem_singleton_self a
      | cons b l ih =>
        intro a
        show l.foldl min (min a b) ∈ _
        rcases List.mem_cons.mp (ih (min a b)) with e | e
        · rw [e]
          rcases Nat.le_total a b with c | c
          · rw [Nat.min_eq_left c]; exact List.mem_cons_self
          · rw [Nat.min_eq_right c]; exact List.mem_cons_of_mem _ List.mem_cons_self
        · exact List.mem_cons_of_mem _ (List.mem_cons_of_mem _ e)
    exact key l a
end Rb
end
section
set_option autoImplicit false
namespace Rb
open PySem
/-! ### falling lists -/
theorem sortD_perm (l : List Nat) : (sortD l).Perm l := List.mergeSort_perm _ _
theorem sortD_fall (l : List Nat) : (sortD l).Pairwise (· ≥ ·) := by
  have h := List.pairwise_mergeSort (le := fun a b : Nat => decide (b ≤ a)) (fun a b c h1 h2 => by
    simp only [decide_eq_true_eq] at h1 h2 ⊢
    omega) (fun a b => by
    simp only [Bool.or_eq_true, decide_eq_true_eq]
    omega) l
  exact h.imp fun h => of_decide_eq_true h
theorem stk_zip : ∀ (l : List Nat) (k : Nat), (∀ y ∈ (l.zipIdx k).map (fun p => p.1 + p.2), y ≤ stk l + k) ∧ (l ≠ [] → (∀ x ∈ l, 1 ≤ x) → stk l + k ∈ (l.zipIdx k).map (fun p => p.1 + p.2))
  | [], k => ⟨fun y hy => absurd hy (by simp), fun h => absurd rfl h⟩
  | a :: l, k => by
    obtain ⟨h1, h2⟩ := stk_zip l (k + 1)
    have e : stk (a :: l) = max a (stk l + 1) := rfl
    rw [List.zipIdx_cons, List.map_cons]
    refine ⟨fun y hy => ?_, fun _ hp => ?_⟩
    · rcases List.mem_cons.mp hy with rfl | hy
      · show a + k ≤ _
        omega
      · have := h1 y hy
        omega
    · rw [e]
      rcases Nat.lt_or_ge a (stk l + 1) with c | c
      · cases l with
        | nil =>
          have h0 := hp a List.mem_cons_self
          have : stk [] = 0 := rfl
          omega
        | cons b l =>
          rw [Nat.max_eq_right (Nat.le_of_lt c)]
          have := h2 (by simp) fun x hx => hp x (List.mem_cons_of_mem _ hx)
          refine List.mem_cons_of_mem _ ?_
          rw [show stk (b :: l) + 1 + k = stk (b :: l) + (k + 1) by omega]
          exact this
      · rw [Nat.max_eq_left c]
        exact List.mem_cons_self
theorem stk_pos {l : List Nat} (h : l ≠ []) : 1 ≤ stk l := by
  cases l with
  | nil => exact absurd rfl h
  | cons a l => show 1 ≤ max a (stk l + 1); omega
theorem comb_pos (l : List Nat) : 1 ≤ comb l := by
  unfold comb
  split
  · exact Nat.le_refl _
  · rename_i h
    refine stk_pos fun e => h ?_
    have := (sortD_perm l).length_eq
    rw [e] at this
    exact List.length_eq_zero_iff.mp this.symm
/-! ### the trees' needs -/
def needAtF (r : Row) (i : Nat) : Nat → Nat := ((needed r).take i).foldl (needStep r) fun _ => 0
theorem needAtF_succ {r : Row} {i x : Nat} (h : (needed r)[i]? = some x) : needAtF r (i + 1) = needStep r (needAtF r i) x := by
  unfold needAtF
  rw [take_snoc h, List.foldl_append]
  rfl
theorem nd_inj {r : Row} {i j x : Nat} (hi : (needed r)[i]? = some x) (hj : (needed r)[j]? = some x) : i = j := by
  obtain ⟨a, b⟩ := List.getElem?_eq_some_iff.mp hi
  obtain ⟨c, d⟩ := List.getElem?_eq_some_iff.mp hj
  exact (List.getElem_inj (needed_nodup r)).mp (b.trans d.symm)
theorem needAtF_keep {r : Row} {j x : Nat} (hj : (needed r)[j]? = some x) : ∀ i, j < i → i ≤ (needed r).length → needAtF r i x = needAtF r (j + 1) x
  | 0, h, _ => absurd h (by omega)
  | i + 1, h, hl => by
    by_cases e : i = j
    · rw [e]
    · have hy : (needed r)[i]? = some (needed r)[i] := List.getElem?_eq_getElem (by omega)
      rw [needAtF_succ hy]
      unfold needStep
      rw [if_neg]
      · exact needAtF_keep hj i (by omega) (by omega)
      · intro z
        rw [← z] at hy
        exact e (nd_inj hy hj)
theorem nd_before {r : Row} {i x y : Nat} (hx : (needed r)[i]? = some x) (hy : y ∈ needed r) (h : y < x) : ∃ j, j < i ∧ (needed r)[j]? = some y := by
  obtain ⟨j, hj⟩ := List.mem_iff_getElem?.mp hy
  refine ⟨j, ?_, hj⟩
  obtain ⟨h1, e1⟩ := List.getElem?_eq_some_iff.mp hx
  obtain ⟨h2, e2⟩ := List.getElem?_eq_some_iff.mp hj
  rcases Nat.lt_trichotomy j i with c | c | c
  · exact c
  · subst c
    rw [e1] at e2
    omega
  · have := List.pairwise_iff_getElem.mp (needed_rising r) i j h1 h2 c
    omega
theorem need_eq {r : Row} (ok : r.Ok) {x : Nat} (hx : x ∈ needed r) : needFn r x = comb ((kids r x).map (needFn r)) := by
  obtain ⟨i, hi⟩ := List.mem_iff_getElem?.mp hx
  have hl := (List.getElem?_eq_some_iff.mp hi).1
  have e0 : needFn r = needAtF r (needed r).length := by unfold needFn needAtF; rw [List.take_length]
  have e1 : needFn r x = needAtF r (i + 1) x := by rw [e0, needAtF_keep hi _ hl (Nat.le_refl _)]
  rw [e1, needAtF_succ hi]
  unfold needStep
  rw [if_pos rfl]
  congr 1
  refine List.map_congr_left fun y hy => ?_
  have hyu := mem_kids.mp hy
  obtain ⟨j, hj, hj2⟩ := nd_before hi (nd_use ok hx hyu) (ok.use hyu)
  rw [e0, needAtF_keep hj2 _ (by omega) (Nat.le_refl _), needAtF_keep hj2 i hj (by omega)]
theorem need_pos {r : Row} (ok : r.Ok) {x : Nat} (hx : x ∈ needed r) : 1 ≤ needFn r x := by rw [need_eq ok hx]; exact comb_pos _
/-! ### trees, from the greatest need -/
def ordLe (f : Nat → Nat) (a b : Nat) : Bool := decide (f b < f a ∨ (f a = f b ∧ a ≤ b))
def ordBy (f : Nat → Nat) (l : List Nat) : List Nat := l.mergeSort (ordLe f)
theorem ordBy_perm (f : Nat → Nat) (l : List Nat) : (ordBy f l).Perm l := List.mergeSort_perm _ _
theorem ordBy_sorted (f : Nat → Nat) (l : List Nat) : (ordBy f l).Pairwise fun a b => f b < f a ∨ (f a = f b ∧ a ≤ b) := by
  have h := List.pairwise_mergeSort (le := ordLe f) (fun a b c h1 h2 => by
    simp only [ordLe, decide_eq_true_eq] at h1 h2 ⊢
    omega) (fun a b => by
    simp only [ordLe, Bool.or_eq_true, decide_eq_true_eq]
    omega) l
  exact h.imp fun h => of_decide_eq_true h
def treeF (r : Row) : Nat → Nat → List Nat
  | 0, _ => []
  | n + 1, x => (ordBy (needFn r) (kids r x)).flatMap (treeF r n) ++ [x]
def woodOrd (r : Row) (n : Nat) : List Nat := (ordBy (needFn r) (roots r)).flatMap (treeF r n)
end Rb
end
section
set_option autoImplicit false
namespace Rb
open PySem
/-! ### woods -/
theorem mem_users {r : Row} {x y : Nat} : y ∈ users r x ↔ y ∈ needed r ∧ x ∈ r.uses y := by
  unfold users
  rw [List.mem_filter, decide_eq_true_eq]
structure Wood (r : Row) : Prop where
  top : ∀ x ∈ r.ends, ∀ y ∈ needed r, x ∉ r.uses y
  one : ∀ x y z, y ∈ needed r → z ∈ needed r → x ∈ r.uses y → x ∈ r.uses z → y = z
theorem wood_of {r : Row} (ok : r.Ok) (h : isWood r = true) : Wood r := by
  unfold isWood at h
  rw [List.all_eq_true] at h
  have h' : ∀ x ∈ needed r, (users r x).length = if x ∈ r.ends then 0 else 1 := fun x hx => of_decide_eq_true (h x hx)
  refine ⟨fun x hx y hy hu => ?_, fun x y z hy hz hu hv => ?_⟩
  · have := h' x (nd_end ok hx)
    rw [if_pos hx] at this
    have e := List.length_eq_zero_iff.mp this
    have : y ∈ users r x := mem_users.mpr ⟨hy, hu⟩
    rw [e] at this
    cases this
  · have q := h' x (nd_use ok hy hu)
    have m1 : y ∈ users r x := mem_users.mpr ⟨hy, hu⟩
    have m2 : z ∈ users r x := mem_users.mpr ⟨hz, hv⟩
    split at q
    · rw [List.length_eq_zero_iff.mp q] at m1
      cases m1
    · obtain ⟨a, e⟩ := List.length_eq_one_iff.mp q
      rw [e] at m1 m2
      rw [List.mem_singleton.mp m1, List.mem_singleton.mp m2]
theorem treeF_le {r : Row} (ok : r.Ok) : ∀ (n c x : Nat), x ∈ treeF r n c → x ≤ c
  | 0, _, _, h => absurd h (by simp [treeF])
  | n + 1, c, x, h => by
    unfold treeF at h
    rcases List.mem_append.mp h with h | h
    · obtain ⟨k, hk, h⟩ := List.mem_flatMap.mp h
      have := ok.use (mem_kids.mp ((ordBy_perm _ _).mem_iff.mp hk))
      have := treeF_le ok n k x h
      omega
    · rw [List.mem_singleton.mp h]
      exact Nat.le_refl _
theorem treeF_self {r : Row} {n c : Nat} : c ∈ treeF r (n + 1) c := by
  unfold treeF
  simp
theorem treeF_nd {r : Row} (ok : r.Ok) : ∀ (n c : Nat), c ∈ needed r → ∀ x ∈ treeF r n c, x ∈ needed r
  | 0, _, _, y, hy => absurd hy (by simp [treeF])
  | n + 1, x, hx, y, hy => by
    unfold treeF at hy
    rcases List.mem_append.mp hy with hy | hy
    · obtain ⟨z, hz, hy⟩ := List.mem_flatMap.mp hy
      exact treeF_nd ok n z (nd_use ok hx (mem_kids.mp ((ordBy_perm _ _).mem_iff.mp hz))) y hy
    · rw [List.mem_singleton.mp hy]; exact hx
/-- one step up -/
theorem treeF_up {r : Row} (ok : r.Ok) : ∀ (n c x : Nat), c ∈ needed r → x ∈ treeF r n c → x ≠ c → ∃ y ∈ treeF r n c, x ∈ r.uses y
  | 0, _, _, _, h, _ => absurd h (by simp [treeF])
  | n + 1, c, x, hc, h, hne => by
    unfold treeF at h ⊢
    rcases List.mem_append.mp h with h | h
    · obtain ⟨k, hk, h⟩ := List.mem_flatMap.mp h
      have hk' := (ordBy_perm _ _).mem_iff.mp hk
      by_cases e : x = k
      · subst e
        exact ⟨c, by simp, mem_kids.mp hk'⟩
      · obtain ⟨y, hy, hu⟩ := treeF_up ok n k x (nd_use ok hc (mem_kids.mp hk')) h e
        exact ⟨y, List.mem_append_left _ (List.mem_flatMap.mpr ⟨k, hk, hy⟩), hu⟩
    · exact absurd (List.mem_singleton.mp h) hne
/-- one step down -/
theorem treeF_down {r : Row} (ok : r.Ok) : ∀ (n c y x : Nat), c < n → y ∈ treeF r n c → x ∈ r.uses y → x ∈ treeF r n c
  | 0, _, _, _, h, _, _ => absurd h (by omega)
  | n + 1, c, y, x, hn, h, hu => by
    unfold treeF at h ⊢
    rcases List.mem_append.mp h with h | h
    · obtain ⟨k, hk, h⟩ := List.mem_flatMap.mp h
      have hk' := ok.use (mem_kids.mp ((ordBy_perm _ _).mem_iff.mp hk))
      exact List.mem_append_left _ (List.mem_flatMap.mpr ⟨k, hk, treeF_down ok n k y x (by omega) h hu⟩)
    · rw [List.mem_singleton.mp h] at hu
      have hx := ok.use hu
      refine List.mem_append_left _ (List.mem_flatMap.mpr ⟨x, (ordBy_perm _ _).mem_iff.mpr (mem_kids.mpr hu), ?_⟩)
      obtain ⟨m, rfl⟩ : ∃ m, n = m + 1 := ⟨n - 1, by omega⟩
      exact treeF_self
theorem trees_apart {r : Row} (ok : r.Ok) (wd : Wood r) {c d n m : Nat} (hc : c ∈ needed r) (hd : d ∈ needed r) (hne : c ≠ d)
    (h1 : ∀ y ∈ needed r, c ∈ r.uses y → d < y) (h2 : ∀ y ∈ needed r, d ∈ r.uses y → c < y) : ∀ x, x ∈ treeF r n c → x ∉ treeF r m d := by
  have key : ∀ k x, c + d - x ≤ k → x ∈ treeF r n c → x ∈ treeF r m d → False := by
    intro k
    induction k with
    | zero =>
      intro x hk ha hb
      have := treeF_le ok n c x ha
      have := treeF_le ok m d x hb
      omega
    | succ k ih =>
      intro x hk ha hb
      by_cases e : x = c
      · subst e
        obtain ⟨y, hy, hu⟩ := treeF_up ok m d x hd hb hne
        have := h1 y (treeF_nd ok m d hd y hy) hu
        have := treeF_le ok m d y hy
        omega
      · by_cases e' : x = d
        · subst e'
          obtain ⟨y, hy, hu⟩ := treeF_up ok n c x hc ha (fun z => hne z.symm)
          have := h2 y (treeF_nd ok n c hc y hy) hu
          have := treeF_le ok n c y hy
          omega
        · obtain ⟨y, hy, hu⟩ := treeF_up ok n c x hc ha e
          obtain ⟨y', hy', hu'⟩ := treeF_up ok m d x hd hb e'
          have e2 := wd.one x y y' (treeF_nd ok n c hc y hy) (treeF_nd ok m d hd y' hy') hu hu'
          subst e2
          have := ok.use hu
          have := treeF_le ok n c y hy
          exact ih y (by omega) hy hy'
  exact fun x ha hb => key _ x (Nat.le_refl _) ha hb
theorem kids_pair {r : Row} (ok : r.Ok) (wd : Wood r) {p : Nat} (hp : p ∈ needed r) {a b : Nat} (ha : a ∈ kids r p) (hb : b ∈ kids r p) (hne : a ≠ b) (n : Nat) : ∀ x, x ∈ treeF r n a → x ∉ treeF r n b := by
  have ua := mem_kids.mp ha
  have ub := mem_kids.mp hb
  refine trees_apart ok wd (nd_use ok hp ua) (nd_use ok hp ub) hne (fun y hy hu => ?_) fun y hy hu => ?_
  · rw [wd.one a y p hy hp hu ua]; exact ok.use ub
  · rw [wd.one b y p hy hp hu ub]; exact ok.use ua
theorem roots_pair {r : Row} (ok : r.Ok) (wd : Wood r) {a b : Nat} (ha : a ∈ r.ends) (hb : b ∈ r.ends) (hne : a ≠ b) (n : Nat) : ∀ x, x ∈ treeF r n a → x ∉ treeF r n b :=
  trees_apart ok wd (nd_end ok ha) (nd_end ok hb) hne (fun y hy hu => absurd hu (wd.top a ha y hy)) fun y hy hu => absurd hu (wd.top b hb y hy)
theorem ordBy_nodup {f : Nat → Nat} {l : List Nat} (h : l.Nodup) : (ordBy f l).Nodup := (ordBy_perm f l).nodup_iff.mpr h
theorem mem_ordBy {f : Nat → Nat} {l : List Nat} {x : Nat} : x ∈ ordBy f l ↔ x ∈ l := (ordBy_perm f l).mem_iff
theorem treeF_nodup {r : Row} (ok : r.Ok) (wd : Wood r) : ∀ (n c : Nat), c ∈ needed r → (treeF r n c).Nodup
  | 0, _, _ => List.nodup_nil
  | n + 1, c, hc => by
    unfold treeF
    rw [List.nodup_append]
    refine ⟨?_, by simp, fun a ha b hb => ?_⟩
    · refine List.pairwise_flatMap.mpr ⟨fun k hk => treeF_nodup ok wd n k (nd_use ok hc (mem_kids.mp (mem_ordBy.mp hk))), ?_⟩
      refine (ordBy_nodup (f := needFn r) (setN_nodup (r.uses c))).imp_of_mem ?_
      intro a b ha hb hne x hx y hy e
      subst e
      exact kids_pair ok wd hc (mem_ordBy.mp ha) (mem_ordBy.mp hb) hne n x hx hy
    · rw [List.mem_singleton.mp hb]
      obtain ⟨k, hk, h⟩ := List.mem_flatMap.mp ha
      have := treeF_le ok n k a h
      have := ok.use (mem_kids.mp (mem_ordBy.mp hk))
      omega
theorem treeF_len {r : Row} (ok : r.Ok) (wd : Wood r) {n c : Nat} (hc : c ∈ needed r) : (treeF r n c).length ≤ (needed r).length := nodup_sub_len (treeF_nodup ok wd n c hc) (treeF_nd ok n c hc)
theorem woodOrd_nodup {r : Row} (ok : r.Ok) (wd : Wood r) (n : Nat) : (woodOrd r n).Nodup := by
  unfold woodOrd
  refine List.pairwise_flatMap.mpr ⟨fun k hk => treeF_nodup ok wd n k (nd_end ok (mem_setN.mp (mem_ordBy.mp hk))), ?_⟩
  refine (ordBy_nodup (f := needFn r) (setN_nodup r.ends)).imp_of_mem ?_
  intro a b ha hb hne x hx y hy e
  subst e
  exact roots_pair ok wd (mem_setN.mp (mem_ordBy.mp ha)) (mem_setN.mp (mem_ordBy.mp hb)) hne n x hx hy
theorem woodOrd_nd {r : Row} (ok : r.Ok) (n : Nat) : ∀ x ∈ woodOrd r n, x ∈ needed r := fun x hx => by
  obtain ⟨k, hk, h⟩ := List.mem_flatMap.mp hx
  exact treeF_nd ok n k (nd_end ok (mem_setN.mp (mem_ordBy.mp hk))) x h
theorem nd_woodOrd {r : Row} (ok : r.Ok) {n : Nat} (hn : r.steps.length ≤ n) : ∀ x ∈ needed r, x ∈ woodOrd r n := by
  have key : ∀ k x, r.steps.length - x ≤ k → x ∈ needed r → x ∈ woodOrd r n := by
    intro k
    induction k with
    | zero => intro x hk hx; have := nd_lt hx; omega
    | succ k ih =>
      intro x hk hx
      rcases (nd_iff ok).mp hx with h | ⟨y, hy, hu⟩
      · have hl := nd_lt hx
        obtain ⟨m, rfl⟩ : ∃ m, n = m + 1 := ⟨n - 1, by omega⟩
        exact List.mem_flatMap.mpr ⟨x, mem_ordBy.mpr (mem_setN.mpr h), treeF_self⟩
      · have hl := ok.use hu
        have hly := nd_lt hy
        obtain ⟨c, hc, h⟩ := List.mem_flatMap.mp (ih y (by omega) hy)
        have hcn := nd_lt (nd_end ok (mem_setN.mp (mem_ordBy.mp hc)))
        exact List.mem_flatMap.mpr ⟨c, hc, treeF_down ok n c y x (by omega) h hu⟩
  exact fun x hx => key _ x (Nat.le_refl _) hx
/-! ### it is an order -/
def Rdy (r : Row) (pre l : List Nat) : Prop := ∀ t x, l[t]? = some x → ∀ u ∈ r.uses x, u ∈ pre ∨ u ∈ l.take t
theorem Rdy.app {r : Row} {pre a b : List Nat} (h1 : Rdy r pre a) (h2 : Rdy r (pre ++ a) b) : Rdy r pre (a ++ b) := fun t x ht u hu => by
  by_cases h : t < a.length
  · rw [List.getElem?_append_left h] at ht
    rcases h1 t x ht u hu with q | q
    · exact .inl q
    · rw [List.take_append_of_le_length (Nat.le_of_lt h)]
      exact .inr q
  · rw [List.getElem?_append_right (by omega)] at ht
    rw [List.take_append, List.take_of_length_le (by omega : a.length ≤ t)]
    rcases h2 _ x ht u hu with q | q
    · rcases List.mem_append.mp q with q | q
      · exact .inl q
      · exact .inr (List.mem_append_left _ q)
    · exact .inr (List.mem_append_right _ q)
theorem Rdy.flat {r : Row} {f : Nat → List Nat} : ∀ (l pre : List Nat), (∀ k ∈ l, ∀ pre, Rdy r pre (f k)) → Rdy r pre (l.flatMap f)
  | [], _, _ => fun t x ht => by simp at ht
  | k :: l, pre, h => by
    rw [List.flatMap_cons]
    exact (h k List.mem_cons_self pre).app (Rdy.flat l _ fun k hk => h k (List.mem_cons_of_mem _ hk))
theorem treeF_rdy {r : Row} (ok : r.Ok) : ∀ (n c : Nat) (pre : List Nat), c < n → Rdy r pre (treeF r n c)
  | 0, _, _, h => absurd h (by omega)
  | n + 1, c, pre, h => by
    unfold treeF
    refine Rdy.app (Rdy.flat _ _ fun k hk pre => treeF_rdy ok n k pre ?_) fun t x ht u hu => ?_
    · have := ok.use (mem_kids.mp (mem_ordBy.mp hk))
      omega
    · cases t with
      | zero =>
        simp at ht
        subst ht
        refine .inl (List.mem_append_right _ (List.mem_flatMap.mpr ⟨u, mem_ordBy.mpr (mem_kids.mpr hu), ?_⟩))
        have := ok.use hu
        obtain ⟨m, rfl⟩ : ∃ m, n = m + 1 := ⟨n - 1, by omega⟩
        exact treeF_self
      | succ t => simp at ht
theorem woodOrd_ord {r : Row} (ok : r.Ok) (wd : Wood r) {n : Nat} (hn : r.steps.length ≤ n) : IsOrd r (woodOrd r n) where
  perm := (List.perm_ext_iff_of_nodup (woodOrd_nodup ok wd n) (needed_nodup r)).mpr fun x => ⟨woodOrd_nd ok n x, nd_woodOrd ok hn x⟩
  uses := fun t x ht u hu => by
    have h : Rdy r [] (woodOrd r n) := Rdy.flat _ _ fun k hk pre => treeF_rdy ok n k pre (by
      have := nd_lt (nd_end ok (mem_setN.mp (mem_ordBy.mp hk)))
      omega)
    rcases h t x ht u hu with q | q
    · cases q
    · exact q
end Rb
end
section
set_option autoImplicit false
namespace Rb
open PySem
theorem rise_ext : ∀ {a b : List Nat}, a.Pairwise (· < ·) → b.Pairwise (· < ·) → (∀ x, x ∈ a ↔ x ∈ b) → a = b := fun {a b} ha hb h => by
  have hp : a.Perm b := (List.perm_ext_iff_of_nodup (ha.imp fun h => Nat.ne_of_lt h) (hb.imp fun h => Nat.ne_of_lt h)).mpr h
  exact hp.eq_of_pairwise (le := fun x y : Nat => x < y) (fun x y _ _ h1 h2 => by omega) ha hb
theorem insN_len_new {x : Nat} : ∀ {l : List Nat}, x ∉ l → (insN x l).length = l.length + 1
  | [], _ => rfl
  | y :: ys, h => by
    have h1 : x ≠ y := fun e => h (by rw [e]; exact List.mem_cons_self)
    have h2 : x ∉ ys := fun e => h (List.mem_cons_of_mem _ e)
    unfold insN
    split
    · rfl
    · simp [insN_len_new h2]
theorem insN_perm {x : Nat} : ∀ {l : List Nat}, x ∉ l → (insN x l).Perm (l ++ [x])
  | [], _ => List.Perm.refl _
  | y :: ys, h => by
    have h1 : x ≠ y := fun e => h (by rw [e]; exact List.mem_cons_self)
    have h2 : x ∉ ys := fun e => h (List.mem_cons_of_mem _ e)
    unfold insN
    split
    · exact List.perm_append_comm (l₁ := [x]) (l₂ := y :: ys)
    · exact (insN_perm h2).cons y
theorem mem_without {l : List Nat} {x y : Nat} : y ∈ without l x ↔ y ∈ l ∧ y ≠ x := by
  unfold without
  rw [List.mem_filter]
  simp
theorem without_rise {l : List Nat} (h : l.Pairwise (· < ·)) (x : Nat) : (without l x).Pairwise (· < ·) := List.Pairwise.filter _ h
theorem without_len {l : List Nat} (hn : l.Nodup) {x : Nat} (hx : x ∈ l) : (without l x).length + 1 = l.length := by
  have e : without l x = l.erase x := by
    unfold without
    rw [hn.erase_eq_filter]
    first | (congr 1; funext y; simp [bne]; done) | congr 1
  rw [e, List.length_erase_of_mem hx]
  have := List.length_pos_of_mem hx
  omega
theorem Lot.nil {r : Row} : Lot r [] := ⟨List.Pairwise.nil, fun x h => absurd h (by simp), fun x h => absurd h (by simp)⟩
theorem Lot.nodup {r : Row} {l : List Nat} (h : Lot r l) : l.Nodup := h.rise.imp fun h => Nat.ne_of_lt h
theorem Lot.len {r : Row} {l : List Nat} (h : Lot r l) : l.length ≤ (needed r).length := nodup_sub_len h.nodup h.sub
theorem Lot.all {r : Row} (ok : r.Ok) : Lot r (needed r) := ⟨needed_rising r, fun _ h => h, fun x hx u hu => nd_use ok hx hu⟩
theorem Lot.take {r : Row} (ok : r.Ok) (k : Nat) : Lot r ((needed r).take k) where
  rise := List.Pairwise.sublist (List.take_sublist _ _) (needed_rising r)
  sub := fun x h => List.mem_of_mem_take h
  down := fun x h u hu => by
    obtain ⟨i, hi, e⟩ := List.getElem_of_mem h
    rw [List.length_take] at hi
    rw [List.getElem_take] at e
    have hx : (needed r)[i]? = some x := by rw [List.getElem?_eq_getElem (by omega), e]
    obtain ⟨j, hj, ej⟩ := nd_before hx (nd_use ok (List.mem_of_getElem? hx) hu) (ok.use hu)
    refine List.mem_of_getElem? (i := j) ?_
    rw [List.getElem?_take, if_pos (by omega)]
    exact ej
/-- a step may be added to a lot -/
def Addable (r : Row) (l : List Nat) (x : Nat) : Prop := x ∉ l ∧ ∀ u ∈ r.uses x, u ∈ l
theorem Lot.ins {r : Row} {l : List Nat} {x : Nat} (h : Lot r l) (hx : x ∈ needed r) (ha : Addable r l x) : Lot r (insN x l) where
  rise := insN_rising h.rise
  sub := fun y hy => by rcases mem_insN.mp hy with rfl | hy; exact hx; exact h.sub y hy
  down := fun y hy u hu => by
    rcases mem_insN.mp hy with rfl | hy
    · exact mem_insN.mpr (.inr (ha.2 u hu))
    · exact mem_insN.mpr (.inr (h.down y hy u hu))
theorem ins_without {l : List Nat} {x : Nat} (h : l.Pairwise (· < ·)) (hx : x ∈ l) : insN x (without l x) = l := by
  refine rise_ext (insN_rising (without_rise h x)) h fun y => ?_
  rw [mem_insN, mem_without]
  constructor
  · rintro (rfl | h)
    · exact hx
    · exact h.1
  · intro hy
    by_cases e : y = x
    · exact .inl e
    · exact .inr ⟨hy, e⟩
theorem mem_lastOnes {r : Row} {l : List Nat} {x : Nat} : x ∈ lastOnes r l ↔ x ∈ l ∧ ∀ y ∈ needed r, x ∈ r.uses y → y ∉ l := by
  unfold lastOnes
  rw [List.mem_filter, Bool.not_eq_true', List.any_eq_false]
  constructor
  · rintro ⟨h1, h2⟩
    refine ⟨h1, fun y hy hu hl => ?_⟩
    have := h2 y (mem_users.mpr ⟨hy, hu⟩)
    simp [hl] at this
  · rintro ⟨h1, h2⟩
    refine ⟨h1, fun y hy => ?_⟩
    obtain ⟨a, b⟩ := mem_users.mp hy
    simp [h2 y a b]
theorem Lot.without {r : Row} {l : List Nat} {x : Nat} (h : Lot r l) (hx : x ∈ lastOnes r l) : Lot r (Rb.without l x) where
  rise := without_rise h.rise x
  sub := fun y hy => h.sub y (mem_without.mp hy).1
  down := fun y hy u hu => by
    obtain ⟨h1, h2⟩ := mem_without.mp hy
    refine mem_without.mpr ⟨h.down y h1 u hu, fun e => ?_⟩
    subst e
    exact (mem_lastOnes.mp hx).2 y (h.sub y h1) hu h1
theorem Lot.last {r : Row} (ok : r.Ok) {l : List Nat} (h : Lot r l) (hne : l ≠ []) : ∃ x, x ∈ lastOnes r l ∧ Addable r (Rb.without l x) x := by
  obtain ⟨x, hx⟩ : ∃ x, l.getLast? = some x := by
    cases e : l.getLast? with
    | none => exact absurd (List.getLast?_eq_none_iff.mp e) hne
    | some x => exact ⟨x, rfl⟩
  have hm : x ∈ l := List.mem_of_getLast? hx
  have mx : ∀ y ∈ l, y ≤ x := by
    obtain ⟨ys, rfl⟩ := List.getLast?_eq_some_iff.mp hx
    intro y hy
    rcases List.mem_append.mp hy with hy | hy
    · exact Nat.le_of_lt ((List.pairwise_append.mp h.rise).2.2 y hy x (List.mem_singleton_self x))
    · rw [List.mem_singleton.mp hy]
      exact Nat.le_refl _
  refine ⟨x, mem_lastOnes.mpr ⟨hm, fun y hy hu hl => ?_⟩, fun z => (mem_without.mp z).2 rfl, fun u hu => mem_without.mpr ⟨h.down x hm u hu, ?_⟩⟩
  · have := ok.use hu
    have := mx y hl
    omega
  · have := ok.use hu
    omega
theorem lastOnes_ne {r : Row} (ok : r.Ok) {l : List Nat} (h : Lot r l) (hne : l ≠ []) : lastOnes r l ≠ [] := fun e => by
  obtain ⟨x, hx, _⟩ := h.last ok hne
  rw [e] at hx
  cases hx
/-! ### how many lots -/
def subs : List Nat → List (List Nat)
  | [] => [[]]
  | x :: l => subs l ++ (subs l).map (x :: ·)
theorem subs_len : ∀ l : List Nat, (subs l).length = 2 ^ l.length
  | [] => rfl
  | x :: l => by
    rw [subs, List.length_append, List.length_map, subs_len l, List.length_cons, Nat.pow_succ]
    omega
theorem mem_subs : ∀ {l m : List Nat}, l.Pairwise (· < ·) → m.Pairwise (· < ·) → (∀ x ∈ m, x ∈ l) → m ∈ subs l
  | [], m, _, _, h => by
    cases m with
    | nil => exact List.mem_singleton_self _
    | cons x m => exact absurd (h x List.mem_cons_self) (by simp)
  | a :: l, m, hl, hm, h => by
    obtain ⟨l1, l2⟩ := List.pairwise_cons.mp hl
    unfold subs
    by_cases ha : a ∈ m
    · cases m with
      | nil => cases ha
      | cons b m =>
        obtain ⟨m1, m2⟩ := List.pairwise_cons.mp hm
        have e : b = a := by
          rcases List.mem_cons.mp ha with e | e
          · exact e.symm
          · have h1 := m1 a e
            rcases List.mem_cons.mp (h b List.mem_cons_self) with e2 | e2
            · exact e2
            · have := l1 b e2
              omega
        subst e
        refine List.mem_append_right _ (List.mem_map.mpr ⟨m, mem_subs l2 m2 fun x hx => ?_, rfl⟩)
        rcases List.mem_cons.mp (h x (List.mem_cons_of_mem _ hx)) with e | e
        · subst e
          exact absurd (m1 x hx) (Nat.lt_irrefl _)
        · exact e
    · refine List.mem_append_left _ (mem_subs l2 hm fun x hx => ?_)
      rcases List.mem_cons.mp (h x hx) with e | e
      · subst e; exact absurd hx ha
      · exact e
theorem lots_few {r : Row} (hn : (needed r).length ≤ 12) {D : List (List Nat)} (hd : D.Nodup) (h : ∀ m ∈ D, Lot r m) : D.length ≤ 4096 := by
  have := nodup_sub_len hd fun m hm => mem_subs (needed_rising r) (h m hm).rise (h m hm).sub
  rw [subs_len] at this
  have h2 : 2 ^ (needed r).length ≤ 2 ^ 12 := Nat.pow_le_pow_right (by omega) hn
  omega
/-! ### what lots_of gives -/
structure LotsOk (r : Row) (L : List (List Nat)) : Prop where
  head : L[0]? = some []
  lot : ∀ l ∈ L, Lot r l
  nodup : L.Nodup
  before : ∀ i l x, L[i]? = some l → x ∈ lastOnes r l → without l x ∈ L.take i
  every : ∀ l, Lot r l → l ∈ L
  len : L.length ≤ 9000
theorem LotsOk.ne {r : Row} {L : List (List Nat)} (h : LotsOk r L) {i : Nat} {l : List Nat} (hi : L[i]? = some l) (h0 : 0 < i) : l ≠ [] := fun e => by
  subst e
  obtain ⟨h1, e1⟩ := List.getElem?_eq_some_iff.mp hi
  obtain ⟨h2, e2⟩ := List.getElem?_eq_some_iff.mp h.head
  have := (List.getElem_inj h.nodup).mp (e1.trans e2.symm)
  omega
/-- the list under way: all lots of at most k steps, by their length -/
structure Upto (r : Row) (k : Nat) (F N : List (List Nat)) : Prop where
  head : F[0]? = some []
  nodup : F.Nodup
  mem : ∀ l, l ∈ F ↔ Lot r l ∧ l.length ≤ k
  rise : F.Pairwise fun a b => a.length ≤ b.length
  now : ∀ l, l ∈ N ↔ Lot r l ∧ l.length = k
  nnd : N.Nodup
theorem Upto.zero {r : Row} : Upto r 0 [[]] [[]] where
  head := rfl
  nodup := by simp
  mem := fun l => by
    rw [List.mem_singleton]
    constructor
    · rintro rfl; exact ⟨Lot.nil, Nat.le_refl _⟩
    · rintro ⟨_, h⟩; exact List.length_eq_zero_iff.mp (Nat.le_zero.mp h)
  rise := by simp
  now := fun l => by
    rw [List.mem_singleton]
    constructor
    · rintro rfl; exact ⟨Lot.nil, rfl⟩
    · rintro ⟨_, h⟩; exact List.length_eq_zero_iff.mp h
  nnd := by simp
theorem Upto.succ {r : Row} {k : Nat} {F N N' : List (List Nat)} (h : Upto r k F N) (hn : N'.Nodup) (hm : ∀ l, l ∈ N' ↔ Lot r l ∧ l.length = k + 1) : Upto r (k + 1) (F ++ N') N' where
  head := by
    have := (List.getElem?_eq_some_iff.mp h.head).1
    rw [List.getElem?_append_left this]
    exact h.head
  nodup := by
    rw [List.nodup_append]
    refine ⟨h.nodup, hn, fun a ha b hb e => ?_⟩
    subst e
    have := ((h.mem a).mp ha).2
    have := ((hm a).mp hb).2
    omega
  mem := fun l => by
    rw [List.mem_append, h.mem, hm]
    constructor
    · rintro (⟨a, b⟩ | ⟨a, b⟩)
      · exact ⟨a, by omega⟩
      · exact ⟨a, by omega⟩
    · rintro ⟨a, b⟩
      by_cases e : l.length ≤ k
      · exact .inl ⟨a, e⟩
      · exact .inr ⟨a, by omega⟩
  rise := by
    rw [List.pairwise_append]
    refine ⟨h.rise, ?_, fun a ha b hb => ?_⟩
    · exact List.Pairwise.imp_of_mem (fun {a b} ha hb _ => by
        have := ((hm a).mp ha).2
        have := ((hm b).mp hb).2
        omega) hn
    · have := ((h.mem a).mp ha).2
      have := ((hm b).mp hb).2
      omega
  now := hm
  nnd := hn
theorem Upto.done {r : Row} (ok : r.Ok) (hl : (needed r).length ≤ 12) {k : Nat} {F : List (List Nat)} (h : Upto r k F []) : LotsOk r F where
  head := h.head
  lot := fun l hl => ((h.mem l).mp hl).1
  nodup := h.nodup
  before := fun i l x hi hx => by
    have hlm := List.mem_of_getElem? hi
    obtain ⟨h1, h2⟩ := (h.mem l).mp hlm
    have hw := h1.without hx
    have hlen := without_len h1.nodup (mem_lastOnes.mp hx).1
    obtain ⟨j, hj⟩ := List.mem_iff_getElem?.mp ((h.mem _).mpr ⟨hw, by omega⟩)
    refine List.mem_of_getElem? (i := j) ?_
    rw [List.getElem?_take, if_pos]
    · exact hj
    · obtain ⟨a1, e1⟩ := List.getElem?_eq_some_iff.mp hi
      obtain ⟨a2, e2⟩ := List.getElem?_eq_some_iff.mp hj
      rcases Nat.lt_trichotomy j i with c | c | c
      · exact c
      · subst c
        rw [e1] at e2
        rw [← e2] at hlen
        omega
      · have := List.pairwise_iff_getElem.mp h.rise i j a1 a2 c
        rw [e1, e2] at this
        omega
  every := by
    have c : (needed r).length ≤ k := by
      by_cases c : (needed r).length ≤ k
      · exact c
      · have : (needed r).take k ∈ ([] : List (List Nat)) := (h.now _).mpr ⟨Lot.take ok k, by rw [List.length_take]; omega⟩
        cases this
    exact fun l hl => (h.mem l).mpr ⟨hl, Nat.le_trans hl.len c⟩
  len := by
    have := lots_few hl h.nodup fun m hm => ((h.mem m).mp hm).1
    omega
theorem Upto.low {r : Row} {k : Nat} {F N : List (List Nat)} (h : Upto r k F N) (hne : N ≠ []) : k ≤ (needed r).length := by
  cases N with
  | nil => exact absurd rfl hne
  | cons l N =>
    obtain ⟨a, b⟩ := (h.now l).mp List.mem_cons_self
    have := a.len
    omega
/-- the keys under way -/
structure Keys (r : Row) (N : List (List Nat)) (i : Nat) (l : List Nat) (j : Nat) (D : List (List Nat)) : Prop where
  nodup : D.Nodup
  mem : ∀ m, m ∈ D ↔ (∃ l' ∈ N.take i, ∃ x ∈ needed r, Addable r l' x ∧ m = insN x l') ∨ ∃ x ∈ (needed r).take j, Addable r l x ∧ m = insN x l
theorem Keys.yes {r : Row} {N : List (List Nat)} {i : Nat} {l : List Nat} {j x : Nat} {D : List (List Nat)} (h : Keys r N i l j D) (hx : (needed r)[j]? = some x) (ha : Addable r l x) : Keys r N i l (j + 1) (if insN x l ∈ D then D else D ++ [insN x l]) where
  nodup := by
    split
    · exact h.nodup
    · rename_i hn
      rw [List.nodup_append]
      exact ⟨h.nodup, by simp, fun a ha b hb e => hn (by rw [← List.mem_singleton.mp hb, ← e]; exact ha)⟩
  mem := fun m => by
    have e : m ∈ (if insN x l ∈ D then D else D ++ [insN x l]) ↔ m ∈ D ∨ m = insN x l := by
      split
      · rename_i hm
        constructor
        · exact .inl
        · rintro (q | rfl)
          · exact q
          · exact hm
      · rw [List.mem_append, List.mem_singleton]
    rw [e, h.mem, take_snoc hx]
    constructor
    · rintro ((q | ⟨y, hy, q1, q2⟩) | q)
      · exact .inl q
      · exact .inr ⟨y, List.mem_append_left _ hy, q1, q2⟩
      · exact .inr ⟨x, List.mem_append_right _ (List.mem_singleton_self x), ha, q⟩
    · rintro (q | ⟨y, hy, q1, q2⟩)
      · exact .inl (.inl q)
      · rcases List.mem_append.mp hy with hy | hy
        · exact .inl (.inr ⟨y, hy, q1, q2⟩)
        · rw [List.mem_singleton.mp hy] at q2
          exact .inr q2
theorem Keys.no {r : Row} {N : List (List Nat)} {i : Nat} {l : List Nat} {j x : Nat} {D : List (List Nat)} (h : Keys r N i l j D) (hx : (needed r)[j]? = some x) (ha : ¬ Addable r l x) : Keys r N i l (j + 1) D where
  nodup := h.nodup
  mem := fun m => by
    rw [h.mem, take_snoc hx]
    constructor
    · rintro (q | ⟨y, hy, q1, q2⟩)
      · exact .inl q
      · exact .inr ⟨y, List.mem_append_left _ hy, q1, q2⟩
    · rintro (q | ⟨y, hy, q1, q2⟩)
      · exact .inl q
      · rcases List.mem_append.mp hy with hy | hy
        · exact .inr ⟨y, hy, q1, q2⟩
        · rw [List.mem_singleton.mp hy] at q1
          exact absurd q1 ha
theorem Keys.next {r : Row} {N : List (List Nat)} {i : Nat} {l : List Nat} {D : List (List Nat)} (h : Keys r N i l (needed r).length D) (hl : N[i]? = some l) (l2 : List Nat) : Keys r N (i + 1) l2 0 D where
  nodup := h.nodup
  mem := fun m => by
    rw [h.mem, take_snoc hl, List.take_length]
    constructor
    · rintro (⟨l', hl', q⟩ | q)
      · exact .inl ⟨l', List.mem_append_left _ hl', q⟩
      · exact .inl ⟨l, List.mem_append_right _ (List.mem_singleton_self l), q⟩
    · rintro (⟨l', hl', q⟩ | ⟨x, hx, _⟩)
      · rcases List.mem_append.mp hl' with hl' | hl'
        · exact .inl ⟨l', hl', q⟩
        · rw [List.mem_singleton.mp hl'] at q
          exact .inr q
      · simp at hx
theorem Keys.start {r : Row} {N : List (List Nat)} (l : List Nat) : Keys r N 0 l 0 [] where
  nodup := List.nodup_nil
  mem := fun m => by simp
theorem Keys.done {r : Row} (ok : r.Ok) {k : Nat} {F N D : List (List Nat)} {l : List Nat} (u : Upto r k F N) (h : Keys r N N.length l 0 D) : ∀ m, m ∈ D ↔ Lot r m ∧ m.length = k + 1 := fun m => by
  rw [h.mem, List.take_length]
  constructor
  · rintro (⟨l', hl', x, hx, ha, rfl⟩ | ⟨x, hx, _⟩)
    · obtain ⟨a, b⟩ := (u.now l').mp hl'
      exact ⟨a.ins hx ha, by rw [insN_len_new ha.1, b]⟩
    · simp at hx
  · rintro ⟨a, b⟩
    obtain ⟨x, hx, ha⟩ := a.last ok (fun e => by rw [e] at b; simp at b)
    have hxm := (mem_lastOnes.mp hx).1
    refine .inl ⟨without m x, (u.now _).mpr ⟨a.without hx, ?_⟩, x, a.sub x hxm, ha, (ins_without a.rise hxm).symm⟩
    have := without_len a.nodup hxm
    omega
theorem Keys.lots {r : Row} {k : Nat} {F N D : List (List Nat)} {l : List Nat} {i j : Nat} (u : Upto r k F N) (hl : l ∈ N) (h : Keys r N i l j D) : ∀ m ∈ D, Lot r m := fun m hm => by
  rcases (h.mem m).mp hm with ⟨l', hl', x, hx, ha, rfl⟩ | ⟨x, hx, ha, rfl⟩
  · exact ((u.now l').mp (List.mem_of_mem_take hl')).1.ins hx ha
  · exact ((u.now l).mp hl).1.ins (List.mem_of_mem_take hx) ha
end Rb
end
section
set_option autoImplicit false
namespace Rb
open PySem
/-! ### what is held -/
theorem held_iff {r : Row} {l : List Nat} {x : Nat} : x ∈ heldOf r l ↔ x ∈ l ∧ (x ∈ r.ends ∨ ∃ y ∈ needed r, x ∈ r.uses y ∧ y ∉ l) := by
  unfold heldOf
  rw [List.mem_filter, Bool.or_eq_true, decide_eq_true_eq, Bool.not_eq_true', List.all_eq_false]
  constructor
  · rintro ⟨h1, h2 | ⟨y, hy, h2⟩⟩
    · exact ⟨h1, .inl h2⟩
    · obtain ⟨a, b⟩ := mem_users.mp hy
      exact ⟨h1, .inr ⟨y, a, b, by simpa using h2⟩⟩
  · rintro ⟨h1, h2 | ⟨y, a, b, h2⟩⟩
    · exact ⟨h1, .inl h2⟩
    · exact ⟨h1, .inr ⟨y, mem_users.mpr ⟨a, b⟩, by simpa using h2⟩⟩
theorem heldOf_nodup {r : Row} {l : List Nat} (h : l.Nodup) : (heldOf r l).Nodup := List.Pairwise.filter _ h
theorem heldOf_perm {r : Row} {l m : List Nat} (h : l.Perm m) : (heldOf r l).Perm (heldOf r m) := by
  unfold heldOf
  have e : (fun x => decide (x ∈ r.ends) || !((users r x).all fun y => decide (y ∈ l))) = fun x => decide (x ∈ r.ends) || !((users r x).all fun y => decide (y ∈ m)) := by
    funext x
    congr 2
    congr 1
    funext y
    exact decide_eq_decide.mpr h.mem_iff
  rw [e]
  exact h.filter _
theorem le_loadOf {r : Row} {o : List Nat} {t : Nat} (h : t < o.length) : (heldOf r (o.take (t + 1))).length ≤ loadOf r o := by
  refine le_maxL (List.mem_map.mpr ⟨heldOf r (o.take (t + 1)), ?_, rfl⟩)
  exact List.mem_map.mpr ⟨t, List.mem_range.mpr h, rfl⟩
theorem loadOf_le {r : Row} {o : List Nat} {k : Nat} (h : ∀ t, t < o.length → (heldOf r (o.take (t + 1))).length ≤ k) : loadOf r o ≤ k := maxL_le fun x hx => by
  obtain ⟨l, hl, rfl⟩ := List.mem_map.mp hx
  obtain ⟨t, ht, rfl⟩ := List.mem_map.mp hl
  exact h t (List.mem_range.mp ht)
/-! ### lots: no order does better -/
def lotAt (r : Row) (o : List Nat) (t : Nat) : List Nat := (needed r).filter fun x => decide (x ∈ o.take t)
theorem mem_lotAt {r : Row} {o : List Nat} (io : IsOrd r o) {t x : Nat} : x ∈ lotAt r o t ↔ x ∈ o.take t := by
  unfold lotAt
  rw [List.mem_filter, decide_eq_true_eq]
  exact ⟨fun h => h.2, fun h => ⟨io.mem.mp (List.mem_of_mem_take h), h⟩⟩
theorem take_get {o : List Nat} {t x : Nat} (h : x ∈ o.take t) : ∃ s, s < t ∧ o[s]? = some x := by
  obtain ⟨s, hs, e⟩ := List.getElem_of_mem h
  rw [List.length_take] at hs
  rw [List.getElem_take] at e
  exact ⟨s, by omega, by rw [List.getElem?_eq_getElem (by omega), e]⟩
theorem get_take {o : List Nat} {s t x : Nat} (h : o[s]? = some x) (hs : s < t) : x ∈ o.take t := by
  refine List.mem_of_getElem? (i := s) ?_
  rw [List.getElem?_take, if_pos hs]
  exact h
theorem take_mono {o : List Nat} {s t x : Nat} (h : x ∈ o.take s) (hs : s ≤ t) : x ∈ o.take t := by
  obtain ⟨i, hi, e⟩ := take_get h
  exact get_take e (by omega)
theorem get_inj {o : List Nat} (h : o.Nodup) {i j x : Nat} (hi : o[i]? = some x) (hj : o[j]? = some x) : i = j := by
  obtain ⟨a, b⟩ := List.getElem?_eq_some_iff.mp hi
  obtain ⟨c, d⟩ := List.getElem?_eq_some_iff.mp hj
  exact (List.getElem_inj h).mp (b.trans d.symm)
theorem lotAt_lot {r : Row} {o : List Nat} (io : IsOrd r o) (t : Nat) : Lot r (lotAt r o t) where
  rise := List.Pairwise.filter _ (needed_rising r)
  sub := fun x h => (List.mem_filter.mp h).1
  down := fun x h u hu => by
    rw [mem_lotAt io] at h ⊢
    obtain ⟨s, hs, e⟩ := take_get h
    exact take_mono (io.uses s x e u hu) (by omega)
theorem lotAt_perm {r : Row} {o : List Nat} (io : IsOrd r o) (t : Nat) : (lotAt r o t).Perm (o.take t) :=
  (List.perm_ext_iff_of_nodup (lotAt_lot io t).nodup (List.Nodup.sublist (List.take_sublist _ _) io.nodup)).mpr fun x => mem_lotAt io
theorem bestOf_eq' {r : Row} {l : List Nat} (hn : l.Nodup) (hne : l ≠ []) : bestOf r l = max (minL ((lastOnes r l).map fun x => bestOf r (without l x))) (heldOf r l).length := by
  obtain ⟨n, hl⟩ : ∃ n, l.length = n + 1 := ⟨l.length - 1, by have := List.length_pos_iff.mpr hne; omega⟩
  show bestF r l.length l = _
  rw [hl]
  show max (minL ((lastOnes r l).map fun x => bestF r n (without l x))) (heldOf r l).length = _
  congr 2
  refine List.map_congr_left fun x hx => ?_
  unfold bestOf
  have := without_len hn (mem_lastOnes.mp hx).1
  rw [show (without l x).length = n by omega]
theorem best_le {r : Row} {o : List Nat} (io : IsOrd r o) : ∀ t, t ≤ o.length → bestOf r (lotAt r o t) ≤ loadOf r o
  | 0, _ => by
    have : lotAt r o 0 = [] := by
      unfold lotAt
      simp
    rw [this]
    exact Nat.zero_le _
  | t + 1, ht => by
    have hx : o[t]? = some o[t] := List.getElem?_eq_getElem ht
    have hlot := lotAt_lot io (t + 1)
    have hm : o[t] ∈ lotAt r o (t + 1) := (mem_lotAt io).mpr (get_take hx (by omega))
    have hne : lotAt r o (t + 1) ≠ [] := fun e => by rw [e] at hm; cases hm
    have hlast : o[t] ∈ lastOnes r (lotAt r o (t + 1)) := mem_lastOnes.mpr ⟨hm, fun y hy hu hl => by
      obtain ⟨s, hs, e⟩ := take_get ((mem_lotAt io).mp hl)
      obtain ⟨s', hs', e'⟩ := take_get (io.uses s y e _ hu)
      have := get_inj io.nodup e' hx
      omega⟩
    have hw : without (lotAt r o (t + 1)) o[t] = lotAt r o t := by
      refine rise_ext (without_rise hlot.rise _) (lotAt_lot io t).rise fun y => ?_
      rw [mem_without, mem_lotAt io, mem_lotAt io]
      constructor
      · rintro ⟨h1, h2⟩
        obtain ⟨s, hs, e⟩ := take_get h1
        refine get_take e ?_
        have : s ≠ t := fun z => by
          subst z
          rw [hx] at e
          exact h2 (Option.some.inj e).symm
        omega
      · intro h
        refine ⟨take_mono h (by omega), fun e => ?_⟩
        obtain ⟨s, hs, e'⟩ := take_get h
        rw [e] at e'
        have := get_inj io.nodup e' hx
        omega
    rw [bestOf_eq' hlot.nodup hne]
    refine Nat.max_le.mpr ⟨?_, ?_⟩
    · refine Nat.le_trans (minL_le (List.mem_map.mpr ⟨o[t], hlast, rfl⟩)) ?_
      rw [hw]
      exact best_le io t (by omega)
    · rw [(heldOf_perm (lotAt_perm io (t + 1))).length_eq]
      exact le_loadOf ht
theorem best_le_load {r : Row} {o : List Nat} (io : IsOrd r o) : bestOf r (needed r) ≤ loadOf r o := by
  have h := best_le io o.length (Nat.le_refl _)
  have e : lotAt r o o.length = needed r := rise_ext (lotAt_lot io _).rise (needed_rising r) fun x => by
    rw [mem_lotAt io, List.take_length]
    exact io.mem
  rwa [e] at h
/-! ### lots: the order that is built from behind -/
inductive Chain (r : Row) : List Nat → List Nat → Prop
  | nil : Chain r (needed r) []
  | cons {l f : List Nat} {x : Nat} : x ∉ l → (∀ u ∈ r.uses x, u ∈ l) → Chain r (insN x l) f → Chain r l (x :: f)
def chainLoad (r : Row) : List Nat → List Nat → Nat
  | _, [] => 0
  | l, x :: f => max (heldOf r (insN x l)).length (chainLoad r (insN x l) f)
theorem Chain.perm {r : Row} {l f : List Nat} (h : Chain r l f) : (l ++ f).Perm (needed r) := by
  induction h with
  | nil => simp
  | @cons l f x hx _ _ ih =>
    refine List.Perm.trans ?_ ih
    have := (insN_perm hx).symm.append_right f
    rw [List.append_assoc] at this
    exact this
theorem Chain.rdy {r : Row} {l f : List Nat} (h : Chain r l f) : ∀ pre : List Nat, pre.Perm l → Rdy r pre f := by
  induction h with
  | nil => intro pre _ t x ht; simp at ht
  | @cons l f x hx hu _ ih =>
    intro pre hp
    have h1 : Rdy r pre [x] := fun t y ht u hy => by
      cases t with
      | zero => simp at ht; subst ht; exact .inl (hp.mem_iff.mpr (hu u hy))
      | succ t => simp at ht
    exact h1.app (ih (pre ++ [x]) ((hp.append_right [x]).trans (insN_perm hx).symm))
theorem Chain.ord {r : Row} {f : List Nat} (h : Chain r [] f) : IsOrd r f where
  perm := h.perm
  uses := fun t x ht u hu => by
    rcases h.rdy [] (List.Perm.refl _) t x ht u hu with q | q
    · cases q
    · exact q
theorem Chain.load {r : Row} {l f : List Nat} (h : Chain r l f) : ∀ pre : List Nat, pre.Perm l → maxL ((List.range f.length).map fun t => (heldOf r (pre ++ f.take (t + 1))).length) = chainLoad r l f := by
  induction h with
  | nil => intro pre _; rfl
  | @cons l f x hx hu _ ih =>
    intro pre hp
    have hp' : (pre ++ [x]).Perm (insN x l) := (hp.append_right [x]).trans (insN_perm hx).symm
    have := ih (pre ++ [x]) hp'
    rw [List.length_cons, List.range_succ_eq_map, List.map_cons, List.map_map]
    show max (heldOf r (pre ++ [x])).length (maxL _) = max _ _
    rw [(heldOf_perm hp').length_eq, ← this]
    congr 2
    refine List.map_congr_left fun t _ => ?_
    show (heldOf r (pre ++ (x :: f).take (t + 1 + 1))).length = _
    rw [List.take_succ_cons, List.append_assoc]
    rfl
theorem Chain.loadOf {r : Row} {f : List Nat} (h : Chain r [] f) : loadOf r f = chainLoad r [] f := by
  have := h.load [] (List.Perm.refl _)
  rw [← this]
  unfold Rb.loadOf heldNums heldRows
  rw [List.map_map]
  rfl
/-! ### woods: trees beside one another -/
def Apart (r : Row) (a b : List Nat) : Prop := ∀ x ∈ a, ∀ y ∈ b, x ∉ r.uses y ∧ y ∉ r.uses x
theorem heldOf_app {r : Row} {a b : List Nat} (h : Apart r a b) : heldOf r (a ++ b) = heldOf r a ++ heldOf r b := by
  unfold heldOf
  rw [List.filter_append]
  congr 1
  · refine List.filter_congr fun x hx => ?_
    congr 2
    refine Bool.eq_iff_iff.mpr ?_
    rw [List.all_eq_true, List.all_eq_true]
    refine ⟨fun q y hy => ?_, fun q y hy => ?_⟩
    · have := q y hy
      rw [decide_eq_true_eq] at this ⊢
      rcases List.mem_append.mp this with z | z
      · exact z
      · exact absurd (mem_users.mp hy).2 (h x hx y z).1
    · have := q y hy
      rw [decide_eq_true_eq] at this ⊢
      exact List.mem_append_left _ this
  · refine List.filter_congr fun x hx => ?_
    congr 2
    refine Bool.eq_iff_iff.mpr ?_
    rw [List.all_eq_true, List.all_eq_true]
    refine ⟨fun q y hy => ?_, fun q y hy => ?_⟩
    · have := q y hy
      rw [decide_eq_true_eq] at this ⊢
      rcases List.mem_append.mp this with z | z
      · exact absurd (mem_users.mp hy).2 (h y z x hx).2
      · exact z
    · have := q y hy
      rw [decide_eq_true_eq] at this ⊢
      exact List.mem_append_right _ this
theorem load_app {r : Row} {a b : List Nat} (h : Apart r a b) : loadOf r (a ++ b) ≤ max (loadOf r a) ((heldOf r a).length + loadOf r b) := loadOf_le fun t ht => by
  by_cases c : t < a.length
  · rw [List.take_append_of_le_length (by omega)]
    exact Nat.le_trans (le_loadOf c) (Nat.le_max_left _ _)
  · rw [List.take_append, List.take_of_length_le (by omega : a.length ≤ t + 1)]
    have h' : Apart r a (b.take (t + 1 - a.length)) := fun x hx y hy => h x hx y (List.mem_of_mem_take hy)
    rw [heldOf_app h', List.length_append]
    rw [List.length_append] at ht
    have := le_loadOf (r := r) (o := b) (t := t - a.length) (by omega)
    rw [show t - a.length + 1 = t + 1 - a.length by omega] at this
    have := Nat.le_max_right (loadOf r a) ((heldOf r a).length + loadOf r b)
    omega
theorem tree_apart {r : Row} (ok : r.Ok) {n a b : Nat} (ha : a < n) (hb : b < n) (h : ∀ x, x ∈ treeF r n a → x ∉ treeF r n b) : Apart r (treeF r n a) (treeF r n b) := fun x hx y hy =>
  ⟨fun hu => h x hx (treeF_down ok n b y x hb hy hu), fun hu => h y (treeF_down ok n a x y ha hx hu) hy⟩
/-- siblings, one behind another -/
theorem flat_load {r : Row} {n : Nat} : ∀ (ks : List Nat), (∀ k ∈ ks, loadOf r (treeF r n k) ≤ needFn r k ∧ (heldOf r (treeF r n k)).length = 1) → ks.Pairwise (fun a b => Apart r (treeF r n a) (treeF r n b)) →
    loadOf r (ks.flatMap (treeF r n)) ≤ stk (ks.map (needFn r)) ∧ (heldOf r (ks.flatMap (treeF r n))).length = ks.length
  | [], _, _ => ⟨Nat.le_refl _, rfl⟩
  | k :: ks, h, hp => by
    obtain ⟨p1, p2⟩ := List.pairwise_cons.mp hp
    obtain ⟨h1, h2⟩ := h k List.mem_cons_self
    obtain ⟨i1, i2⟩ := flat_load ks (fun z hz => h z (List.mem_cons_of_mem _ hz)) p2
    have ap : Apart r (treeF r n k) (ks.flatMap (treeF r n)) := fun x hx y hy => by
      obtain ⟨z, hz, hy⟩ := List.mem_flatMap.mp hy
      exact p1 z hz x hx y hy
    rw [List.flatMap_cons]
    constructor
    · have := load_app ap
      show _ ≤ max (needFn r k) (stk (ks.map (needFn r)) + 1)
      omega
    · rw [heldOf_app ap, List.length_append, h2, i2, List.length_cons]
      omega
theorem ordBy_sortD {f : Nat → Nat} (l : List Nat) : sortD (l.map f) = (ordBy f l).map f := by
  refine ((sortD_perm _).trans ((ordBy_perm f l).map f).symm).eq_of_pairwise (le := fun a b : Nat => a ≥ b) (fun a b _ _ h1 h2 => by omega) (sortD_fall _) ?_
  exact List.pairwise_map.mpr ((ordBy_sorted f l).imp fun h => by omega)
theorem tree_load {r : Row} (ok : r.Ok) (wd : Wood r) : ∀ (n c : Nat), c < n → c ∈ needed r → loadOf r (treeF r n c) ≤ needFn r c ∧ (heldOf r (treeF r n c)).length = 1
  | 0, _, h, _ => absurd h (by omega)
  | n + 1, c, hcn, hc => by
    have kl : ∀ k ∈ ordBy (needFn r) (kids r c), k ∈ needed r ∧ k < c := fun k hk => by
      have := mem_kids.mp (mem_ordBy.mp hk)
      exact ⟨nd_use ok hc this, ok.use this⟩
    have hp : (ordBy (needFn r) (kids r c)).Pairwise (fun a b => Apart r (treeF r n a) (treeF r n b)) := by
      refine (ordBy_nodup (f := needFn r) (setN_nodup (r.uses c))).imp_of_mem ?_
      intro a b ha hb hne
      have := (kl a ha).2
      have := (kl b hb).2
      exact tree_apart ok (by omega) (by omega) (kids_pair ok wd hc (mem_ordBy.mp ha) (mem_ordBy.mp hb) hne n)
    obtain ⟨f1, f2⟩ := flat_load (ordBy (needFn r) (kids r c)) (fun k hk => tree_load ok wd n k (by have := (kl k hk).2; omega) (kl k hk).1) hp
    have e : treeF r (n + 1) c = (ordBy (needFn r) (kids r c)).flatMap (treeF r n) ++ [c] := rfl
    have hend : (heldOf r (treeF r (n + 1) c)).length = 1 := by
      have nd := treeF_nodup ok wd (n + 1) c hc
      have hcm : c ∈ heldOf r (treeF r (n + 1) c) := by
        refine held_iff.mpr ⟨treeF_self, ?_⟩
        rcases (nd_iff ok).mp hc with h | ⟨y, hy, hu⟩
        · exact .inl h
        · refine .inr ⟨y, hy, hu, fun z => ?_⟩
          have := treeF_le ok _ _ _ z
          have := ok.use hu
          omega
      have hall : ∀ x ∈ heldOf r (treeF r (n + 1) c), x ∈ [c] := fun x hx => by
        obtain ⟨h1, h2⟩ := held_iff.mp hx
        by_cases e : x = c
        · rw [e]; exact List.mem_singleton_self c
        · obtain ⟨p, hp, hu⟩ := treeF_up ok (n + 1) c x hc h1 e
          have hpn := treeF_nd ok _ _ hc p hp
          rcases h2 with h2 | ⟨y, hy, hu', hn⟩
          · exact absurd hu (wd.top x h2 p hpn)
          · rw [wd.one x y p hy hpn hu' hu] at hn
            exact absurd hp hn
      have h1 := nodup_sub_len (heldOf_nodup (r := r) nd) hall
      have h2 := List.length_pos_of_mem hcm
      simp only [List.length_singleton] at h1
      omega
    refine ⟨?_, hend⟩
    rw [need_eq ok hc]
    unfold comb
    refine loadOf_le fun t ht => ?_
    have stp : (if (kids r c).map (needFn r) = [] then 1 else stk (sortD ((kids r c).map (needFn r)))) = max 1 (stk ((ordBy (needFn r) (kids r c)).map (needFn r))) := by
      rw [ordBy_sortD]
      split
      · rename_i h0
        have : ordBy (needFn r) (kids r c) = [] := by
          have h1 := congrArg List.length h0
          rw [List.length_map, List.length_nil] at h1
          have := (ordBy_perm (needFn r) (kids r c)).length_eq
          exact List.length_eq_zero_iff.mp (by omega)
        rw [this]
        rfl
      · rename_i h0
        have : 1 ≤ stk ((ordBy (needFn r) (kids r c)).map (needFn r)) := stk_pos fun z => h0 (by
          have h1 := congrArg List.length z
          rw [List.length_map, List.length_nil, (ordBy_perm _ _).length_eq] at h1
          rw [List.length_eq_zero_iff.mp h1]
          rfl)
        omega
    rw [stp]
    by_cases ct : t < ((ordBy (needFn r) (kids r c)).flatMap (treeF r n)).length
    · rw [e, List.take_append_of_le_length (by omega)]
      have := le_loadOf (r := r) ct
      omega
    · have : (treeF r (n + 1) c).take (t + 1) = treeF r (n + 1) c := List.take_of_length_le (by rw [e, List.length_append, List.length_singleton]; omega)
      rw [this, hend]
      exact Nat.le_max_left _ _
theorem wood_load_le {r : Row} (ok : r.Ok) (wd : Wood r) {n : Nat} (hn : r.steps.length ≤ n) : loadOf r (woodOrd r n) ≤ stk (sortD ((roots r).map (needFn r))) := by
  rw [ordBy_sortD]
  have kl : ∀ k ∈ ordBy (needFn r) (roots r), k ∈ r.ends ∧ k ∈ needed r ∧ k < n := fun k hk => by
    have h := mem_setN.mp (mem_ordBy.mp hk)
    have := nd_lt (nd_end ok h)
    exact ⟨h, nd_end ok h, by omega⟩
  have hp : (ordBy (needFn r) (roots r)).Pairwise (fun a b => Apart r (treeF r n a) (treeF r n b)) := by
    refine (ordBy_nodup (f := needFn r) (setN_nodup r.ends)).imp_of_mem ?_
    intro a b ha hb hne
    exact tree_apart ok (kl a ha).2.2 (kl b hb).2.2 (roots_pair ok wd (kl a ha).1 (kl b hb).1 hne n)
  exact (flat_load _ (fun k hk => tree_load ok wd n k (kl k hk).2.2 (kl k hk).2.1) hp).1
end Rb
end
section
set_option autoImplicit false
namespace Rb
open PySem
/-! ### woods: no order does better -/
theorem treeF_fuel {r : Row} (ok : r.Ok) : ∀ (n m c : Nat), c < n → c < m → treeF r n c = treeF r m c
  | 0, _, _, h, _ => absurd h (by omega)
  | _, 0, _, _, h => absurd h (by omega)
  | n + 1, m + 1, c, h1, h2 => by
    unfold treeF
    congr 1
    have key : ∀ l : List Nat, (∀ k ∈ l, k < c) → l.flatMap (treeF r n) = l.flatMap (treeF r m) := by
      intro l
      induction l with
      | nil => intro _; rfl
      | cons k l ih =>
        intro h
        rw [List.flatMap_cons, List.flatMap_cons, ih fun z hz => h z (List.mem_cons_of_mem _ hz)]
        have := h k List.mem_cons_self
        rw [treeF_fuel ok n m k (by omega) (by omega)]
    exact key _ fun k hk => ok.use (mem_kids.mp (mem_ordBy.mp hk))
def sub (r : Row) (c : Nat) : List Nat := treeF r r.steps.length c
/-- how many of c's tree are held behind step t -/
def cnt (r : Row) (o : List Nat) (t c : Nat) : Nat := ((sub r c).filter fun x => decide (x ∈ heldOf r (o.take (t + 1)))).length
theorem cnt_pos {r : Row} {o : List Nat} {t c x : Nat} (h : x ∈ sub r c) (hh : x ∈ heldOf r (o.take (t + 1))) : 1 ≤ cnt r o t c :=
  List.length_pos_of_mem (List.mem_filter.mpr ⟨h, decide_eq_true hh⟩)
theorem pos_cnt {r : Row} {o : List Nat} {t c : Nat} (h : 1 ≤ cnt r o t c) : ∃ x ∈ sub r c, x ∈ o.take (t + 1) := by
  unfold cnt at h
  obtain ⟨x, hx⟩ := List.exists_mem_of_length_pos (by omega : 0 < ((sub r c).filter fun x => decide (x ∈ heldOf r (o.take (t + 1)))).length)
  obtain ⟨h1, h2⟩ := List.mem_filter.mp hx
  exact ⟨x, h1, heldOf_sub (of_decide_eq_true h2)⟩
theorem greatest {P : Nat → Prop} : ∀ n, (∃ y, y ≤ n ∧ P y) → ∃ y, y ≤ n ∧ P y ∧ ∀ z, z ≤ n → P z → z ≤ y := by
  intro n
  induction n with
  | zero => rintro ⟨y, h1, h2⟩; exact ⟨y, h1, h2, fun z hz _ => by omega⟩
  | succ n ih =>
    rintro ⟨y, h1, h2⟩
    by_cases h : P (n + 1)
    · exact ⟨n + 1, Nat.le_refl _, h, fun z hz _ => hz⟩
    · have : y ≠ n + 1 := fun e => h (e ▸ h2)
      obtain ⟨z, z1, z2, z3⟩ := ih ⟨y, by omega, h2⟩
      refine ⟨z, by omega, z2, fun w hw hp => ?_⟩
      have : w ≠ n + 1 := fun e => h (e ▸ hp)
      exact z3 w (by omega) hp
/-- a tree that is begun and not yet used up holds something -/
theorem alive {r : Row} (ok : r.Ok) {o : List Nat} {t c : Nat} (hc : c ∈ needed r) (hs : ∃ x ∈ sub r c, x ∈ o.take (t + 1)) (hp : ∀ p ∈ needed r, c ∈ r.uses p → p ∉ o.take (t + 1)) : 1 ≤ cnt r o t c := by
  obtain ⟨x, hx, hxt⟩ := hs
  obtain ⟨y, hy, ⟨hys, hyt⟩, hmax⟩ := greatest (P := fun x => x ∈ sub r c ∧ x ∈ o.take (t + 1)) c ⟨x, treeF_le ok _ _ _ hx, hx, hxt⟩
  refine cnt_pos hys (held_iff.mpr ⟨hyt, ?_⟩)
  by_cases e : y = c
  · subst e
    rcases (nd_iff ok).mp hc with h | ⟨p, hpn, hu⟩
    · exact .inl h
    · exact .inr ⟨p, hpn, hu, hp p hpn hu⟩
  · obtain ⟨p, hps, hu⟩ := treeF_up ok _ c y hc hys e
    refine .inr ⟨p, treeF_nd ok _ _ hc p hps, hu, fun z => ?_⟩
    have := hmax p (treeF_le ok _ _ _ hps) ⟨hps, z⟩
    have := ok.use hu
    omega
def sumC (r : Row) (o : List Nat) (t : Nat) (S : List Nat) : Nat := (S.map (cnt r o t)).sum
/-- several trees: the last of their peaks -/
theorem peaks {r : Row} (ok : r.Ok) {o : List Nat} {m T : Nat} (hm : 1 ≤ m) : ∀ S : List Nat, S ≠ [] → (∀ c ∈ S, c ∈ needed r ∧ (∃ t, t < T ∧ m ≤ cnt r o t c) ∧ ∀ p ∈ needed r, c ∈ r.uses p → p ∉ o.take T) →
    ∃ t, t < T ∧ (∀ c ∈ S, ∃ x ∈ sub r c, x ∈ o.take (t + 1)) ∧ m + S.length ≤ sumC r o t S + 1
  | [], h, _ => absurd rfl h
  | [c], _, h => by
    obtain ⟨_, ⟨t, ht, hc⟩, _⟩ := h c (List.mem_singleton_self c)
    refine ⟨t, ht, fun z hz => ?_, ?_⟩
    · rw [List.mem_singleton.mp hz]
      exact pos_cnt (by omega)
    · simp [sumC]
      omega
  | c :: d :: S, _, h => by
    obtain ⟨t', ht', hs', hsum⟩ := peaks ok hm (d :: S) (by simp) fun z hz => h z (List.mem_cons_of_mem _ hz)
    obtain ⟨hcn, ⟨tc, htc, hcc⟩, hcp⟩ := h c List.mem_cons_self
    have later : ∀ t, t < T → ∀ p, p ∉ o.take T → p ∉ o.take (t + 1) := fun t ht p hp z => hp (take_mono z (by omega))
    by_cases hle : tc ≤ t'
    · refine ⟨t', ht', fun z hz => ?_, ?_⟩
      · rcases List.mem_cons.mp hz with rfl | hz
        · obtain ⟨x, h1, h2⟩ := pos_cnt (r := r) (o := o) (t := tc) (c := z) (by omega)
          exact ⟨x, h1, take_mono h2 (by omega)⟩
        · exact hs' z hz
      · have h1 : 1 ≤ cnt r o t' c := alive ok hcn (by
          obtain ⟨x, h1, h2⟩ := pos_cnt (r := r) (o := o) (t := tc) (c := c) (by omega)
          exact ⟨x, h1, take_mono h2 (by omega)⟩) fun p hp hu => later t' ht' p (hcp p hp hu)
        have e : sumC r o t' (c :: d :: S) = cnt r o t' c + sumC r o t' (d :: S) := rfl
        rw [e]
        simp only [List.length_cons] at hsum ⊢
        omega
    · have hst : ∀ z ∈ d :: S, ∃ x ∈ sub r z, x ∈ o.take (tc + 1) := fun z hz => by
        obtain ⟨x, h1, h2⟩ := hs' z hz
        exact ⟨x, h1, take_mono h2 (by omega)⟩
      have all1 : ∀ l : List Nat, (∀ z ∈ l, 1 ≤ cnt r o tc z) → l.length ≤ sumC r o tc l := by
        intro l
        induction l with
        | nil => intro _; exact Nat.zero_le _
        | cons a l ih =>
          intro hl
          have h1 := hl a List.mem_cons_self
          have h2 := ih fun z hz => hl z (List.mem_cons_of_mem _ hz)
          have e : sumC r o tc (a :: l) = cnt r o tc a + sumC r o tc l := rfl
          rw [e, List.length_cons]
          omega
      refine ⟨tc, htc, fun z hz => ?_, ?_⟩
      · rcases List.mem_cons.mp hz with rfl | hz
        · exact pos_cnt (by omega)
        · exact hst z hz
      · have h1 := all1 (d :: S) fun z hz => by
          obtain ⟨a, _, b⟩ := h z (List.mem_cons_of_mem _ hz)
          exact alive ok a (hst z hz) fun p hp hu => later tc htc p (b p hp hu)
        have e : sumC r o tc (c :: d :: S) = cnt r o tc c + sumC r o tc (d :: S) := rfl
        rw [e]
        simp only [List.length_cons] at h1 ⊢
        omega
theorem stk_at {l : List Nat} (h : l ≠ []) (hp : ∀ x ∈ l, 1 ≤ x) : ∃ i m, l[i]? = some m ∧ stk l = m + i := by
  obtain ⟨p, hp1, hp2⟩ := List.mem_map.mp ((stk_zip l 0).2 h hp)
  have z := List.mem_zipIdx hp1
  refine ⟨p.2, p.1, ?_, by omega⟩
  rw [List.getElem?_eq_getElem (by omega), z.2.2]
  congr 1
theorem sum_take_le (l : List Nat) (k : Nat) : (l.take k).sum ≤ l.sum := by
  conv => rhs; rw [← List.take_append_drop k l, List.sum_append]
  omega
theorem filter_flat (l : List Nat) (f : Nat → List Nat) (p : Nat → Bool) : ((l.flatMap f).filter p).length = (l.map fun k => ((f k).filter p).length).sum := by
  induction l with
  | nil => rfl
  | cons a l ih => rw [List.flatMap_cons, List.filter_append, List.length_append, ih]; rfl
/-- among siblings that are wanted no earlier than at T -/
theorem group {r : Row} (ok : r.Ok) {o : List Nat} {T : Nat} {ks : List Nat} (hne : ks ≠ []) (h : ∀ c ∈ ks, c ∈ needed r ∧ (∃ t, t < T ∧ needFn r c ≤ cnt r o t c) ∧ ∀ p ∈ needed r, c ∈ r.uses p → p ∉ o.take T) :
    ∃ t, t < T ∧ stk ((ordBy (needFn r) ks).map (needFn r)) ≤ sumC r o t (ordBy (needFn r) ks) := by
  have hl : (ordBy (needFn r) ks).map (needFn r) ≠ [] := fun e => hne (by
    have := congrArg List.length e
    rw [List.length_map, (ordBy_perm _ _).length_eq] at this
    exact List.length_eq_zero_iff.mp this)
  obtain ⟨i, m, hi, hs⟩ := stk_at hl fun x hx => by
    obtain ⟨y, hy, rfl⟩ := List.mem_map.mp hx
    exact need_pos ok (h y (mem_ordBy.mp hy)).1
  have hil : i < (ordBy (needFn r) ks).length := by
    have := (List.getElem?_eq_some_iff.mp hi).1
    rwa [List.length_map] at this
  have fall : ((ordBy (needFn r) ks).map (needFn r)).Pairwise (· ≥ ·) := List.pairwise_map.mpr ((ordBy_sorted (needFn r) ks).imp fun h => by omega)
  have hge : ∀ c ∈ (ordBy (needFn r) ks).take (i + 1), m ≤ needFn r c := fun c hc => by
    obtain ⟨j, hj, ej⟩ := take_get hc
    have e1 : ((ordBy (needFn r) ks).map (needFn r))[j]? = some (needFn r c) := by rw [List.getElem?_map, ej]; rfl
    obtain ⟨a1, b1⟩ := List.getElem?_eq_some_iff.mp e1
    obtain ⟨a2, b2⟩ := List.getElem?_eq_some_iff.mp hi
    by_cases c' : j = i
    · subst c'
      rw [b1] at b2
      omega
    · have := List.pairwise_iff_getElem.mp fall j i a1 a2 (by omega)
      rw [b1, b2] at this
      exact this
  have hm : 1 ≤ m := by
    obtain ⟨y, hy, e⟩ := List.mem_map.mp (List.mem_of_getElem? hi)
    have := need_pos ok (h y (mem_ordBy.mp hy)).1
    omega
  obtain ⟨t, ht, _, hsum⟩ := peaks ok (o := o) (T := T) hm ((ordBy (needFn r) ks).take (i + 1)) (fun e => by
      have := congrArg List.length e
      rw [List.length_take, List.length_nil] at this
      omega) fun c hc => by
    obtain ⟨a, ⟨t, ht, b⟩, d⟩ := h c (mem_ordBy.mp (List.mem_of_mem_take hc))
    exact ⟨a, ⟨t, ht, Nat.le_trans (hge c hc) b⟩, d⟩
  refine ⟨t, ht, ?_⟩
  rw [List.length_take] at hsum
  have h2 : sumC r o t ((ordBy (needFn r) ks).take (i + 1)) ≤ sumC r o t (ordBy (needFn r) ks) := by
    unfold sumC
    rw [List.map_take]
    exact sum_take_le _ _
  rw [hs]
  omega
theorem node_peak {r : Row} (ok : r.Ok) (wd : Wood r) {o : List Nat} (io : IsOrd r o) : ∀ n c, c < n → c ∈ needed r → ∀ i, o[i]? = some c → ∃ t, t ≤ i ∧ needFn r c ≤ cnt r o t c
  | 0, _, h, _ => absurd h (by omega)
  | n + 1, c, hcn, hc => by
    intro i hi
    have hil := (List.getElem?_eq_some_iff.mp hi).1
    have hcl := nd_lt hc
    have es : sub r c = (ordBy (needFn r) (kids r c)).flatMap (sub r) ++ [c] := by
      unfold sub
      rw [treeF_fuel ok r.steps.length (r.steps.length + 1) c hcl (by omega)]
      rfl
    rw [need_eq ok hc]
    unfold comb
    by_cases hk : (kids r c).map (needFn r) = []
    · rw [if_pos hk]
      refine ⟨i, Nat.le_refl _, alive ok hc ⟨c, by rw [es]; simp, get_take hi (by omega)⟩ fun p hp hu z => ?_⟩
      obtain ⟨s, hs, e⟩ := take_get z
      obtain ⟨s', hs', e'⟩ := take_get (io.uses s p e c hu)
      have := get_inj io.nodup hi e'
      omega
    · rw [if_neg hk, ordBy_sortD]
      have hkne : kids r c ≠ [] := fun e => hk (by rw [e]; rfl)
      obtain ⟨t, ht, hsum⟩ := group ok (o := o) (T := i) hkne fun k hkk => by
        have hu := mem_kids.mp hkk
        have hkn := nd_use ok hc hu
        have := ok.use hu
        obtain ⟨j, hj, ej⟩ := take_get (io.uses i c hi k hu)
        obtain ⟨t, ht, hh⟩ := node_peak ok wd io n k (by omega) hkn j ej
        refine ⟨hkn, ⟨t, by omega, hh⟩, fun p hp hup => ?_⟩
        rw [wd.one k p c hp hc hup hu]
        intro z
        obtain ⟨s, hs, e⟩ := take_get z
        have := get_inj io.nodup hi e
        omega
      refine ⟨t, by omega, Nat.le_trans hsum ?_⟩
      unfold cnt sumC
      rw [es, List.filter_append, List.length_append, filter_flat]
      exact Nat.le_add_right _ _
theorem wood_le_load {r : Row} (ok : r.Ok) (wd : Wood r) {o : List Nat} (io : IsOrd r o) : stk (sortD ((roots r).map (needFn r))) ≤ loadOf r o := by
  rw [ordBy_sortD]
  have hrne : roots r ≠ [] := fun e => by
    cases he : r.ends with
    | nil => exact ok.ne he
    | cons x l =>
      have : x ∈ roots r := mem_setN.mpr (by rw [he]; exact List.mem_cons_self)
      rw [e] at this
      cases this
  obtain ⟨t, ht, hsum⟩ := group ok (o := o) (T := o.length) hrne fun c hc => by
    have hce := mem_setN.mp hc
    have hcn := nd_end ok hce
    obtain ⟨i, hi⟩ := List.mem_iff_getElem?.mp (io.mem.mpr hcn)
    obtain ⟨t, h1, h2⟩ := node_peak ok wd io (c + 1) c (by omega) hcn i hi
    have := (List.getElem?_eq_some_iff.mp hi).1
    exact ⟨hcn, ⟨t, by omega, h2⟩, fun p hp hu => absurd hu (wd.top c hce p hp)⟩
  refine Nat.le_trans hsum (Nat.le_trans ?_ (le_loadOf ht))
  have e : sumC r o t (ordBy (needFn r) (roots r)) = ((woodOrd r r.steps.length).filter fun x => decide (x ∈ heldOf r (o.take (t + 1)))).length := by
    unfold woodOrd
    rw [filter_flat]
    rfl
  rw [e]
  refine nodup_sub_len (List.Pairwise.filter _ (woodOrd_nodup ok wd _)) fun x hx => ?_
  exact of_decide_eq_true (List.mem_filter.mp hx).2
/-! ### both -/
theorem least_le_load {r : Row} (ok : r.Ok) {o : List Nat} (io : IsOrd r o) : leastLoad r ≤ loadOf r o := by
  unfold leastLoad
  split
  · rename_i h
    exact wood_le_load ok (wood_of ok h) io
  · exact best_le_load io
theorem wood_load {r : Row} (ok : r.Ok) (h : isWood r = true) {n : Nat} (hn : r.steps.length ≤ n) : loadOf r (woodOrd r n) = leastLoad r := by
  have wd := wood_of ok h
  refine Nat.le_antisymm ?_ (least_le_load ok (woodOrd_ord ok wd hn))
  unfold leastLoad
  rw [if_pos h]
  exact wood_load_le ok wd hn
end Rb
end
section
set_option autoImplicit false
namespace Rb
open PySem
/-! ### two rows beside one another -/
def Stp.shift (a n : Nat) : Stp → Stp
  | .inn k => .inn (a + k) | .st c => .st c | .neg i => .neg (n + i) | .add i j => .add (n + i) (n + j) | .sub i j => .sub (n + i) (n + j) | .mul i j => .mul (n + i) (n + j)
def besideR (r s : Row) : Row := ⟨r.inputs + s.inputs, r.steps ++ s.steps.map (Stp.shift r.inputs r.steps.length), r.ends ++ s.ends.map fun e => r.steps.length + e⟩
theorem shift_uses (a n : Nat) (s : Stp) : (s.shift a n).uses = s.uses.map fun u => n + u := by cases s <;> rfl
theorem beside_len (r s : Row) : (besideR r s).steps.length = r.steps.length + s.steps.length := by
  show (r.steps ++ _).length = _
  rw [List.length_append, List.length_map]
theorem beside_ends (r s : Row) : (besideR r s).ends.length = r.ends.length + s.ends.length := by
  show (r.ends ++ _).length = _
  rw [List.length_append, List.length_map]
theorem beside_uses1 {r s : Row} {x : Nat} (h : x < r.steps.length) : (besideR r s).uses x = r.uses x := by
  unfold Row.uses Row.step
  show ((r.steps ++ _).getD x (.st 0)).uses = _
  rw [List.getD_eq_getElem?_getD, List.getElem?_append_left h, ← List.getD_eq_getElem?_getD]
theorem beside_uses2 {r s : Row} (x : Nat) : (besideR r s).uses (r.steps.length + x) = (s.uses x).map fun u => r.steps.length + u := by
  unfold Row.uses Row.step
  show ((r.steps ++ _).getD (r.steps.length + x) (.st 0)).uses = _
  rw [List.getD_eq_getElem?_getD, List.getElem?_append_right (Nat.le_add_right _ _), Nat.add_sub_cancel_left, List.getElem?_map, List.getD_eq_getElem?_getD]
  cases s.steps[x]? with
  | none => rfl
  | some t => exact shift_uses _ _ t
theorem beside_ok {r s : Row} (h : r.Ok) (h' : s.Ok) (hl : r.steps.length + s.steps.length ≤ 1000) (he : r.ends.length + s.ends.length ≤ 1000) : (besideR r s).Ok where
  lt := fun i t ht u hu => by
    by_cases c : i < r.steps.length
    · have e : (besideR r s).steps[i]? = r.steps[i]? := List.getElem?_append_left c
      rw [e] at ht
      exact h.lt i t ht u hu
    · have e : (besideR r s).steps[i]? = (s.steps.map (Stp.shift r.inputs r.steps.length))[i - r.steps.length]? := List.getElem?_append_right (by omega)
      rw [e, List.getElem?_map] at ht
      obtain ⟨t', h1, rfl⟩ := Option.map_eq_some_iff.mp ht
      rw [shift_uses] at hu
      obtain ⟨v, hv, rfl⟩ := List.mem_map.mp hu
      have := h'.lt _ t' h1 v hv
      omega
  inn := fun i k ht => by
    show k < r.inputs + s.inputs
    by_cases c : i < r.steps.length
    · have e : (besideR r s).steps[i]? = r.steps[i]? := List.getElem?_append_left c
      rw [e] at ht
      have := h.inn i k ht
      omega
    · have e : (besideR r s).steps[i]? = (s.steps.map (Stp.shift r.inputs r.steps.length))[i - r.steps.length]? := List.getElem?_append_right (by omega)
      rw [e, List.getElem?_map] at ht
      obtain ⟨t', h1, h2⟩ := Option.map_eq_some_iff.mp ht
      cases t' with
      | inn k' =>
        have := h'.inn _ k' h1
        cases h2
        omega
      | _ => cases h2
  ends := fun e he => by
    rw [beside_len]
    rcases List.mem_append.mp he with he | he
    · have := h.ends e he
      omega
    · obtain ⟨x, hx, rfl⟩ := List.mem_map.mp he
      have := h'.ends x hx
      omega
  ne := fun e => h.ne (List.append_eq_nil_iff.mp e).1
  len := by rw [beside_len]; exact hl
  elen := by rw [beside_ends]; exact he
/-- its sizes -/
theorem shift_measure (a : Nat) (F f : List Int) (s : Stp) (hu : ∀ u ∈ s.uses, u < f.length) : (s.shift a F.length).measure (F ++ f) 1 = s.measure f 1 := by
  have key : ∀ u, (F ++ f).getD (F.length + u) 0 = f.getD u 0 := fun u => by
    rw [List.getD_eq_getElem?_getD, List.getElem?_append_right (Nat.le_add_right _ _), Nat.add_sub_cancel_left, ← List.getD_eq_getElem?_getD]
  cases s <;> simp only [Stp.shift, Stp.measure, key]
theorem beside_sizes {r s : Row} (h' : s.Ok) : sizesOf (besideR r s).steps = sizesOf r.steps ++ sizesOf s.steps := by
  have key : ∀ k, k ≤ s.steps.length → sizesOf (r.steps ++ (s.steps.take k).map (Stp.shift r.inputs r.steps.length)) = sizesOf r.steps ++ sizesOf (s.steps.take k) := by
    intro k
    induction k with
    | zero => intro _; simp [sizesOf]
    | succ k ih =>
      intro hk
      have hx : s.steps[k]? = some s.steps[k] := List.getElem?_eq_getElem hk
      rw [take_snoc hx, List.map_append, ← List.append_assoc]
      show sizesOf (_ ++ [Stp.shift _ _ s.steps[k]]) = _
      rw [sizesOf_snoc, ih (by omega), sizesOf_snoc, ← List.append_assoc]
      congr 2
      have := shift_measure r.inputs (sizesOf r.steps) (sizesOf (s.steps.take k)) s.steps[k] fun u hu => by
        rw [sizesOf_len, List.length_take]
        have := h'.lt k _ hx u hu
        omega
      rw [sizesOf_len] at this
      exact this
  have := key s.steps.length (Nat.le_refl _)
  rw [List.take_length] at this
  exact this
theorem exists_max : ∀ {l : List Int}, l ≠ [] → ∃ k ∈ l, ∀ y ∈ l, y ≤ k
  | [], h => absurd rfl h
  | [x], _ => ⟨x, List.mem_singleton_self x, fun y hy => by rw [List.mem_singleton.mp hy]; exact Int.le_refl _⟩
  | x :: z :: l, _ => by
    obtain ⟨k, hk, hm⟩ := exists_max (l := z :: l) (by simp)
    by_cases c : k ≤ x
    · refine ⟨x, List.mem_cons_self, fun y hy => ?_⟩
      rcases List.mem_cons.mp hy with rfl | hy
      · exact Int.le_refl _
      · exact Int.le_trans (hm y hy) c
    · refine ⟨k, List.mem_cons_of_mem _ hk, fun y hy => ?_⟩
      rcases List.mem_cons.mp hy with rfl | hy
      · omega
      · exact hm y hy
/-! ### what is needed of it -/
theorem beside_needed {r s : Row} (h : r.Ok) (h' : s.Ok) (hb : (besideR r s).Ok) : needed (besideR r s) = needed r ++ (needed s).map fun x => r.steps.length + x := by
  refine rise_ext (needed_rising _) ?_ fun x => ?_
  · rw [List.pairwise_append]
    refine ⟨needed_rising r, List.pairwise_map.mpr ((needed_rising s).imp fun h => by omega), fun a ha b hb => ?_⟩
    obtain ⟨y, _, rfl⟩ := List.mem_map.mp hb
    have := nd_lt ha
    omega
  · refine (nd_unique hb (S := fun x => x ∈ needed r ++ (needed s).map fun x => r.steps.length + x) (fun x => ?_) (fun x hx => ?_) x).symm
    · constructor
      · intro hx
        rcases List.mem_append.mp hx with hx | hx
        · rcases (nd_iff h).mp hx with q | ⟨y, hy, hu⟩
          · exact .inl (List.mem_append_left _ q)
          · exact .inr ⟨y, List.mem_append_left _ hy, by rw [beside_uses1 (nd_lt hy)]; exact hu⟩
        · obtain ⟨z, hz, rfl⟩ := List.mem_map.mp hx
          rcases (nd_iff h').mp hz with q | ⟨y, hy, hu⟩
          · exact .inl (List.mem_append_right _ (List.mem_map.mpr ⟨z, q, rfl⟩))
          · exact .inr ⟨r.steps.length + y, List.mem_append_right _ (List.mem_map.mpr ⟨y, hy, rfl⟩), by rw [beside_uses2]; exact List.mem_map.mpr ⟨z, hu, rfl⟩⟩
      · rintro (q | ⟨y, hy, hu⟩)
        · rcases List.mem_append.mp q with q | q
          · exact List.mem_append_left _ (nd_end h q)
          · obtain ⟨z, hz, rfl⟩ := List.mem_map.mp q
            exact List.mem_append_right _ (List.mem_map.mpr ⟨z, nd_end h' hz, rfl⟩)
        · rcases List.mem_append.mp hy with hy | hy
          · rw [beside_uses1 (nd_lt hy)] at hu
            exact List.mem_append_left _ (nd_use h hy hu)
          · obtain ⟨z, hz, rfl⟩ := List.mem_map.mp hy
            rw [beside_uses2] at hu
            obtain ⟨w, hw, rfl⟩ := List.mem_map.mp hu
            exact List.mem_append_right _ (List.mem_map.mpr ⟨w, nd_use h' hz hw, rfl⟩)
    · rw [beside_len]
      rcases List.mem_append.mp hx with hx | hx
      · have := nd_lt hx
        omega
      · obtain ⟨z, hz, rfl⟩ := List.mem_map.mp hx
        have := nd_lt hz
        omega
end Rb
end
section
set_option autoImplicit false
namespace Rb
open PySem
/-! ### pebbles: mirrors -/
def NV : Nat := 1000000000000000000000000000000
def ltN (q p : Nat × Nat) : Bool := decide (q.1 < p.1 ∨ (q.1 = p.1 ∧ q.2 < p.2))
def minP (f g : Nat × Nat) : Nat × Nat := if ltN g f then g else f
def partAt (cur prev : List Nat) (s m : Nat) : Nat := min NV (cur.getD m 0 + prev.getD m 0 + prev.getD (s - m) 0)
def partUp (cur prev : List Nat) (s : Nat) : Nat → Nat × Nat
  | 0 => (NV, 0)
  | i + 1 => minP (partUp cur prev s i) (partAt cur prev s (i + 1), i + 1)
def parting (cur prev : List Nat) (s : Nat) : Nat × Nat := partUp cur prev s (s - 1)
def rowStart (s : Nat) : List Nat := [NV, 1] ++ List.replicate (s - 1) NV
def rowUp (prev : List Nat) (s : Nat) : Nat → List Nat
  | 0 => rowStart s
  | k + 1 => (rowUp prev s k).set (k + 2) (parting (rowUp prev s k) prev (k + 2)).1
def nextRow (prev : List Nat) (s : Nat) : List Nat := rowUp prev s (s - 1)
def tabRow (s : Nat) : Nat → List Nat
  | 0 => List.replicate (s + 1) NV
  | k + 1 => nextRow (tabRow s k) s
def table (s p : Nat) : List (List Nat) := (List.range (p + 1)).map (tabRow s)
theorem rowUp_len (prev : List Nat) {s : Nat} (hs : 1 ≤ s) : ∀ k, (rowUp prev s k).length = s + 1
  | 0 => by
    show (rowStart s).length = _
    unfold rowStart
    rw [List.length_append, List.length_replicate]
    simp
    omega
  | k + 1 => by
    show ((rowUp prev s k).set _ _).length = _
    rw [List.length_set]
    exact rowUp_len prev hs k
theorem tabRow_len {s : Nat} (hs : 1 ≤ s) : ∀ k, (tabRow s k).length = s + 1
  | 0 => List.length_replicate
  | k + 1 => rowUp_len _ hs _
theorem table_get {s p k : Nat} (h : k ≤ p) : (table s p)[k]? = some (tabRow s k) := by
  unfold table
  rw [List.getElem?_map, List.getElem?_range (by omega)]
  rfl
def actsD (s p : Nat) : PyData := if (tabRow s (min s p)).getD s 0 = NV then .none else .int ((tabRow s (min s p)).getD s 0 : Int)
def pebN (s : Nat) : Nat := if s ≤ 1 then 1 else if s ≤ 2 then 2 else if s ≤ 4 then 3 else if s ≤ 8 then 4 else if s ≤ 16 then 5 else if s ≤ 32 then 6 else 7
def mid (rows : List (List Nat)) (s p : Nat) : Nat := (parting (rows.getD p []) (rows.getD (p - 1) []) s).2
def actsF (rows : List (List Nat)) : Nat → Nat → Nat → List Nat
  | 0, _, _ => []
  | n + 1, s, p => if s = 1 then [1] else actsF rows n (mid rows s p) p ++ (actsF rows n (s - mid rows s p) (p - 1)).map (fun x => mid rows s p + x) ++ (actsF rows n (mid rows s p) (p - 1)).reverse
def okA (rows : List (List Nat)) : Nat → Nat → Nat → Bool
  | 0, _, _ => false
  | n + 1, s, p => decide (s = 1) || (decide (1 ≤ p) && decide (p < rows.length) && decide (1 ≤ mid rows s p) && decide (mid rows s p < s) && okA rows n (mid rows s p) p && okA rows n (s - mid rows s p) (p - 1) && okA rows n (mid rows s p) (p - 1))
def wayOf (s p : Nat) : List Nat := actsF (table s (min s p)) 20 s (min s p)
def wayOk (s p : Nat) : Bool := decide (1 ≤ s) && decide (s ≤ 20) && decide (1 ≤ p) && decide (p ≤ 20) && !decide ((tabRow s (min s p)).getD s 0 = NV) && okA (table s (min s p)) 20 s (min s p) && decide ((wayOf s p).length ≤ 1000)
def actN (l : List Nat) (x : Nat) : Option (List Nat) := if decide (1 < x) && !decide (x - 1 ∈ l) then none else if x ∈ l then some (l.filter fun y => !decide (y = x)) else some (insN x l)
def runW (p : Nat) : List Nat → List Nat → Option (List Nat)
  | [], l => some l
  | x :: v, l => match actN l x with
    | none => none
    | some l' => if p < l'.length then none else runW p v l'
def isWay (n p : Nat) (v : List Nat) : Bool := !v.isEmpty && decide (runW p v [] = some [n])
def farUp (p acts : Nat) : Nat → Nat
  | 0 => 1
  | i + 1 => if (tabRow 60 p).getD (i + 1) 0 ≤ acts then i + 1 else farUp p acts i
def farN (p acts : Nat) : Nat := farUp p acts 60
end Rb
end
section
set_option autoImplicit false
set_option maxRecDepth 100000
namespace Rb
open PySem
/-! ### pebbles: the table's numbers, packed -/
def pkF : Nat := 16663352934679274373001235887578278271149867070876359609659402392723764027446756916826215547126730269289742202217156613043988992724220405826754197884234813573953287436819372784460049142619409312589902950777528577198097494187100006455339509007071504229598575679384727161835719414090682871608126177377637046199744701530378393020762880396554177188742920427493405177021312776392278631295679393682552316549132632241064159594486646173099112167833953900249344868077754108541044604191961672504798665484275642469980414326035752162322144215825177466911536602232112801013974748282403886807134377072788057673515699715427728505113035308120192179211424055008397117400381792399848120597339975395595950306919870691622114147891967609569943478509662115031404214033126635407130878873945781329997286857107290353350821750099530159995158523492354787891732551026171997264379493290434860444224383124199066489115562677548981663075248801915674074930386594003247279958670285665182004680936640474925655322214005591533425273688164791153002360535248873118089101404238684741904170291437714359423742452078446510902476985659706630593053287977468971277370740502834721842311163356798131808093107435306558538788882493389740489341210806392464883322472400254054980672728369472382459681565408370908999040850550813043877593635605343872506981075919295216495607467784114753758732315022542083897965979629350128816922497379606443366065891155411273148604508913241646694980362851325347630170082763624888420492891945622141589681345330785708210041580318763304962271630918700468529087996266571002413650995246913427598929640264282492568073364887134367929702590996620636685946051131972449911838771780659758001892364851093133450121591883295257443997716611871280827781595475816432244450677121550380386817745029510403050500924897559004718077271734267727942744876726831784193057444133779844162955429839782134027003108394512950209487243490457879275905599549489042847086723137547572494574199910664017933801618291463892694594451305616324583123355756417263529228751532584077623169395129581282864701136459386617334663864371359741149601318721703605486031782955489255236897195761589929021739311458636805249626950352409769902282535537577230328037717498576851524830760377180777069428246686200117310318253199431569460654934233663799231570356547353103760560116815888383
def pkM : Nat := 740612769407561228199299886534006968594111988053681061618148139761175271881268013675961515930453976557557409791757538913325077123920780480906120448814024994189857433220131563096245942018957197508989916152524261524884228729829331437116875877503698916977487393492571015543205914524028928808633085308510745524925272394369758121499421301316958581651589242201266986950945026499565455065218731829215395044346296503440947975197698960852982116697677938004591807676354162678499839836585456277067980322895749599369750202447835560697336101977186715565936978355449273695321475045276540104774854357883935785360395683894530925076218131271420458470110556481280146878567108763740441049999919804406038016395661143602026316335113967298464910918815018056838653882206112403807683229143189263015776142770878526166661380489341697812165732083764059923111371982725636628209591415341601625298826334618745536754102214195015631446879176018378684979153698289089363073210755309996350123095664010773237660119799648973253454931604974121307610870185295777459716988872520564753815400485982993399242812941222305208527503493538741923243614907958233457601632297066190069176054967381349623674010948747343386108116276975306176565294613412926949024077853611913632083070346558241723917950000375528842354447600120983226167258766310807383803965809195286323157495389530229168385218454245739107198866520652380786138861545707886994498211554533051177774487223706049001689017002400689044233443080996748272190256354294263093390713310114327343091931259301044582636391792813676436213721180430800116670684400719997214702503643367497127135246071239758498082931581321314607309400809219838763413472805927807053130687095277115438588197503005018331022312205616686248522986042981070139807363989399100535719810406362795895529226624036645663325608652348812930472065415515700768325702845203101687581917950554653316645307073730198844633059056470063393937030014697267920275284138892923572424980200945425659079542062123677599421474176071657291638984783534511486033948089600948041006109969488077841109665598370913201157579088616433747061177862509850399473824019464038977443029744033259848322162441408238758241145515071752216939719577107523801056331255325267574884363408693151033468977668194720708901709793605299501375603953723711676863631199869403669905655841423360
def atP (P k j : Nat) : Nat := P / 2 ^ (10 * (64 * k + j)) % 1024
def fT (k j : Nat) : Nat := bif Nat.beq (atP pkF k j) 1023 then NV else atP pkF k j
def mT (k j : Nat) : Nat := atP pkM k j
def partF (k s : Nat) : Nat → Nat × Nat
  | 0 => (NV, 0)
  | i + 1 => minP (partF k s i) (min NV (fT (k + 1) (i + 1) + fT k (i + 1) + fT k (s - (i + 1))), i + 1)
def chkRow' (k : Nat) : Bool := (List.range 59).all fun i => (fun q : Nat × Nat => Nat.beq q.1 (fT (k + 1) (i + 2)) && Nat.beq q.2 (mT (k + 1) (i + 2))) (partF k (i + 2) (i + 1))
theorem chk_rows' : (List.range 11).all chkRow' = true := by decide +kernel
theorem allR {n : Nat} {p : Nat → Bool} (h : (List.range n).all p = true) {i : Nat} (hi : i < n) : p i = true := List.all_eq_true.mp h i (List.mem_range.mpr hi)
theorem part_eqT {k s : Nat} (hk : k < 11) (h2 : 2 ≤ s) (hs : s ≤ 60) : partF k s (s - 1) = (fT (k + 1) s, mT (k + 1) s) := by
  have h := allR (allR chk_rows' hk) (i := s - 2) (by omega)
  obtain ⟨a, b⟩ := Bool.and_eq_true_iff.mp h
  have a := Nat.eq_of_beq_eq_true a
  have b := Nat.eq_of_beq_eq_true b
  rw [show s - 2 + 2 = s by omega, show s - 2 + 1 = s - 1 by omega] at a b
  exact Prod.ext a b
theorem part_up {k s S : Nat} {cur prev : List Nat} (hs : s ≤ S) (hc : ∀ j, j < s → cur.getD j 0 = fT (k + 1) j) (hp : ∀ j, j ≤ S → prev.getD j 0 = fT k j) : ∀ i, i < s → partUp cur prev s i = partF k s i
  | 0, _ => rfl
  | i + 1, hi => by
    show minP (partUp cur prev s i) (partAt cur prev s (i + 1), i + 1) = minP (partF k s i) _
    rw [part_up hs hc hp i (by omega)]
    unfold partAt
    rw [hc (i + 1) hi, hp (i + 1) (by omega), hp (s - (i + 1)) (by omega)]
theorem chk_ends : ((List.range 12).all fun k => Nat.beq (fT k 0) NV && (Nat.beq k 0 || Nat.beq (fT k 1) 1)) = true := by decide +kernel
theorem chk_zero : ((List.range 61).all fun j => Nat.beq (fT 0 j) NV) = true := by decide +kernel
theorem rowStart_get {s j : Nat} (hj : j ≤ s) (hs : 1 ≤ s) : (rowStart s).getD j 0 = if j = 1 then 1 else NV := by
  unfold rowStart
  match j with
  | 0 => rfl
  | 1 => rfl
  | j + 2 =>
    rw [List.getD_eq_getElem?_getD, List.getElem?_append_right (by simp), if_neg (by omega)]
    show ((List.replicate (s - 1) NV)[j]?).getD 0 = NV
    rw [List.getElem?_replicate, if_pos (by omega)]
    rfl
theorem row_up {k S : Nat} {prev : List Nat} (hk : k < 11) (h1 : 1 ≤ S) (h60 : S ≤ 60) (hp : ∀ j, j ≤ S → prev.getD j 0 = fT k j) : ∀ i, i + 1 ≤ S → ∀ j, j ≤ i + 1 → (rowUp prev S i).getD j 0 = fT (k + 1) j
  | 0, _, j, hj => by
    have h := allR chk_ends (i := k + 1) (by omega)
    obtain ⟨a, b⟩ := Bool.and_eq_true_iff.mp h
    have a := Nat.eq_of_beq_eq_true a
    show (rowStart S).getD j 0 = _
    rw [rowStart_get (by omega) h1]
    match j, hj with
    | 0, _ => exact a.symm
    | 1, _ =>
      have b : Nat.beq (fT (k + 1) 1) 1 = true := by simpa using b
      exact (Nat.eq_of_beq_eq_true b).symm
  | i + 1, hi, j, hj => by
    have ih := row_up hk h1 h60 hp i (by omega)
    show ((rowUp prev S i).set (i + 2) _).getD j 0 = _
    rw [List.getD_eq_getElem?_getD, List.getElem?_set]
    by_cases e : i + 2 = j
    · subst e
      rw [if_pos rfl, if_pos (by rw [rowUp_len prev h1]; omega)]
      show (parting (rowUp prev S i) prev (i + 2)).1 = _
      unfold parting
      rw [part_up (S := S) (k := k) (by omega) (fun j hj => ih j (by omega)) hp (i + 2 - 1) (by omega), part_eqT hk (by omega) (by omega)]
    · rw [if_neg e, ← List.getD_eq_getElem?_getD]
      exact ih j (by omega)
theorem tab_eq {S : Nat} (h1 : 1 ≤ S) (h60 : S ≤ 60) : ∀ k, k ≤ 11 → ∀ j, j ≤ S → (tabRow S k).getD j 0 = fT k j
  | 0, _, j, hj => by
    have h := Nat.eq_of_beq_eq_true (allR chk_zero (i := j) (by omega))
    rw [h]
    show (List.replicate (S + 1) NV).getD j 0 = NV
    rw [List.getD_eq_getElem?_getD, List.getElem?_replicate, if_pos (by omega)]
    rfl
  | k + 1, hk, j, hj => row_up (by omega) h1 h60 (tab_eq h1 h60 k (by omega)) (S - 1) (by omega) j (by omega)
theorem mid_eq {S q s p : Nat} (h60 : S ≤ 60) (hq : q ≤ 11) (h2 : 2 ≤ s) (hs : s ≤ S) (hp : 1 ≤ p) (hpq : p ≤ q) : mid (table S q) s p = mT p s := by
  unfold mid parting
  have e : ∀ k, k ≤ q → (table S q).getD k [] = tabRow S k := fun k hk => by
    rw [List.getD_eq_getElem?_getD, table_get hk]
    rfl
  rw [e p hpq, e (p - 1) (by omega)]
  obtain ⟨k, rfl⟩ : ∃ k, p = k + 1 := ⟨p - 1, by omega⟩
  rw [Nat.add_sub_cancel, part_up (S := S) (k := k) hs (fun j hj => tab_eq (by omega) h60 (k + 1) (by omega) j (by omega)) (fun j hj => tab_eq (by omega) h60 k (by omega) j hj) (s - 1) (by omega), part_eqT (by omega) h2 (by omega)]
/-! ### ways, by the packed numbers -/
def actsM : Nat → Nat → Nat → List Nat
  | 0, _, _ => []
  | n + 1, s, p => if s = 1 then [1] else actsM n (mT p s) p ++ (actsM n (s - mT p s) (p - 1)).map (fun x => mT p s + x) ++ (actsM n (mT p s) (p - 1)).reverse
def okM : Nat → Nat → Nat → Bool
  | 0, _, _ => false
  | n + 1, s, p => Nat.ble 1 p && (Nat.beq s 1 || (Nat.ble 1 (mT p s) && Nat.blt (mT p s) s && okM n (mT p s) p && okM n (s - mT p s) (p - 1) && okM n (mT p s) (p - 1)))
def lenM : Nat → Nat → Nat → Nat
  | 0, _, _ => 0
  | n + 1, s, p => bif Nat.beq s 1 then 1 else lenM n (mT p s) p + lenM n (s - mT p s) (p - 1) + lenM n (mT p s) (p - 1)
theorem okM_step {n s p : Nat} (h : okM (n + 1) s p = true) (h1 : s ≠ 1) : 1 ≤ mT p s ∧ mT p s < s ∧ okM n (mT p s) p = true ∧ okM n (s - mT p s) (p - 1) = true ∧ okM n (mT p s) (p - 1) = true := by
  unfold okM at h
  simp only [Bool.and_eq_true, Bool.or_eq_true] at h
  rcases h.2 with q | q
  · exact absurd (Nat.eq_of_beq_eq_true q) h1
  · exact ⟨Nat.le_of_ble_eq_true q.1.1.1.1, by have := q.1.1.1.2; unfold Nat.blt at this; exact Nat.le_of_ble_eq_true this, q.1.1.2, q.1.2, q.2⟩
theorem okM_pos {n s p : Nat} (h : okM n s p = true) : 1 ≤ p := by
  cases n with
  | zero => cases h
  | succ n =>
    unfold okM at h
    rw [Bool.and_eq_true] at h
    exact Nat.le_of_ble_eq_true h.1
theorem lenM_eq : ∀ n s p, okM n s p = true → (actsM n s p).length = lenM n s p
  | 0, _, _, h => by cases h
  | n + 1, s, p, h => by
    unfold actsM lenM
    by_cases e : s = 1
    · subst e; rfl
    · obtain ⟨_, _, h3, h4, h5⟩ := okM_step h e
      have eb : Nat.beq s 1 = false := by
        cases q : Nat.beq s 1 with
        | false => rfl
        | true => exact absurd (Nat.eq_of_beq_eq_true q) e
      rw [if_neg e, eb, List.length_append, List.length_append, List.length_map, List.length_reverse, lenM_eq n _ _ h3, lenM_eq n _ _ h4, lenM_eq n _ _ h5]
      rfl
theorem acts_eqM {S q : Nat} (h60 : S ≤ 60) (hq : q ≤ 11) : ∀ n s p, okM n s p = true → s ≤ S → p ≤ q → actsF (table S q) n s p = actsM n s p ∧ okA (table S q) n s p = true
  | 0, _, _, h, _, _ => by cases h
  | n + 1, s, p, h, hs, hpq => by
    have hp := okM_pos h
    unfold actsM actsF okA
    by_cases e : s = 1
    · subst e
      exact ⟨rfl, rfl⟩
    · obtain ⟨h1, h2, h3, h4, h5⟩ := okM_step h e
      have em := mid_eq h60 hq (s := s) (p := p) (by omega) hs hp hpq
      rw [em, if_neg e, if_neg e]
      obtain ⟨a1, b1⟩ := acts_eqM h60 hq n _ _ h3 (by omega) hpq
      obtain ⟨a2, b2⟩ := acts_eqM h60 hq n _ _ h4 (by omega) (by omega)
      obtain ⟨a3, b3⟩ := acts_eqM h60 hq n _ _ h5 (by omega) (by omega)
      rw [a1, a2, a3, b1, b2, b3]
      refine ⟨rfl, ?_⟩
      have hl : (table S q).length = q + 1 := by simp [table]
      simp only [hl, Bool.or_eq_true, Bool.and_eq_true, decide_eq_true_eq]
      exact .inr ⟨⟨⟨⟨⟨⟨hp, by omega⟩, h1⟩, h2⟩, trivial⟩, trivial⟩, trivial⟩
/-! ### what is checked of the packed numbers -/
def pebB (s : Nat) : Nat := bif Nat.ble s 1 then 1 else bif Nat.ble s 2 then 2 else bif Nat.ble s 4 then 3 else bif Nat.ble s 8 then 4 else bif Nat.ble s 16 then 5 else 6
theorem pebB_eq : ((List.range 20).all fun s => Nat.beq (pebB (s + 1)) (pebN (s + 1)) && Nat.ble 1 (pebB (s + 1)) && Nat.ble (pebB (s + 1)) 6) = true := by decide +kernel
def mnB (a b : Nat) : Nat := bif Nat.ble a b then a else b
theorem mnB_eq (a b : Nat) : mnB a b = min a b := by
  unfold mnB
  cases h : Nat.ble a b with
  | true => rw [Nat.min_eq_left (Nat.le_of_ble_eq_true h)]; rfl
  | false =>
    have : ¬ a ≤ b := fun z => by rw [Nat.ble_eq_true_of_le z] at h; cases h
    rw [Nat.min_eq_right (by omega)]; rfl
/-- acts of so many spots and pebbles -/
def aT (s p : Nat) : Nat := fT (mnB s p) s
/-- one pair of spots and pebbles -/
def chkWay (s p : Nat) : Bool := !Nat.ble (pebB s) p || (okM 20 s (mnB s p) && Nat.beq (lenM 20 s (mnB s p)) (aT s p) && Nat.ble (aT s p) 1000)
theorem chk_way : ((List.range 20).all fun s => (List.range 11).all fun p => chkWay (s + 1) p) = true := by decide +kernel
/-- the rows fall; too few pebbles never do -/
def chkFall (s p : Nat) : Bool := !Nat.ble (pebB s) p || (Nat.ble (aT s (p + 1)) (aT s p) && Nat.ble (aT s p) 1000)
theorem chk_fall : ((List.range 20).all fun s => (List.range 12).all fun p => chkFall (s + 1) p) = true := by decide +kernel
theorem chk_few : ((List.range 20).all fun s => Nat.ble s 0 || Nat.beq (aT (s + 1) (pebB (s + 1) - 1)) NV) = true := by decide +kernel
/-- two spots' numbers -/
def chkTwo (s f d : Nat) : Bool := (fun p => (fun m => Nat.ble m 1000 && Nat.ble m (aT s p + aT f (p - 1) + aT s (p - 1)) && Nat.beq (m % 2) 1 && Nat.ble (aT s p + 2 * f) m && Nat.ble (fT p (s + f)) m) (aT (s + f) p)) ((bif Nat.ble (pebB s) (pebB f) then pebB f else pebB s) + 1 + d)
theorem chk_two : ((List.range 20).all fun s => (List.range 20).all fun f => (List.range 3).all fun d => chkTwo (s + 1) (f + 1) d) = true := by decide +kernel
theorem chk_far : ((List.range 60).all fun g => (List.range 10).all fun p => Nat.beq p 0 || Nat.ble (aT (g + 1) p) (fT p (g + 1))) = true := by decide +kernel
/-! ### ways put together -/
theorem runW_cat (p : Nat) : ∀ (a b l : List Nat), runW p (a ++ b) l = (runW p a l).bind (runW p b)
  | [], _, _ => rfl
  | x :: a, b, l => by
    show runW p (x :: (a ++ b)) l = _
    unfold runW
    cases actN l x with
    | none => rfl
    | some l' =>
      dsimp only
      split
      · rfl
      · exact runW_cat p a b l'
theorem runW_mono {p q : Nat} (h : p ≤ q) : ∀ (v l r : List Nat), runW p v l = some r → runW q v l = some r
  | [], _, _, e => e
  | x :: v, l, r, e => by
    unfold runW at e ⊢
    cases ha : actN l x with
    | none => rw [ha] at e; cases e
    | some l' =>
      rw [ha] at e
      dsimp only at e ⊢
      split at e
      · cases e
      · rw [if_neg (by omega)]
        exact runW_mono h v l' r e
theorem mem_shift {m x : Nat} {l : List Nat} : m + x ∈ l.map (fun y => m + y) ↔ x ∈ l := by
  rw [List.mem_map]
  exact ⟨fun ⟨y, hy, e⟩ => by have : y = x := by omega
                              exact this ▸ hy, fun h => ⟨x, h, rfl⟩⟩
theorem insN_shift (m x : Nat) : ∀ l : List Nat, insN (m + x) (l.map fun y => m + y) = (insN x l).map fun y => m + y
  | [] => rfl
  | y :: l => by
    rw [List.map_cons]
    unfold insN
    by_cases h1 : x < y
    · rw [if_pos h1, if_pos (by omega)]; rfl
    · rw [if_neg h1, if_neg (by omega)]
      by_cases h2 : x = y
      · rw [if_pos h2, if_pos (by omega)]; rfl
      · rw [if_neg h2, if_neg (by omega), insN_shift m x l]; rfl
theorem insN_head {m z : Nat} (h : m < z) (l : List Nat) : insN z (m :: l) = m :: insN z l := by
  show (if z < m then _ else _) = _
  rw [if_neg (by omega), if_neg (by omega)]
theorem filter_shift (m x : Nat) (l : List Nat) : (l.map fun y => m + y).filter (fun y => !decide (y = m + x)) = (l.filter fun y => !decide (y = x)).map fun y => m + y := by
  rw [List.filter_map]
  congr 1
  refine List.filter_congr fun y _ => ?_
  show (!decide (m + y = m + x)) = _
  congr 1
  exact decide_eq_decide.mpr ⟨fun h => by omega, fun h => by omega⟩
theorem actN_shift {m x : Nat} (hm : 1 ≤ m) (hx : 1 ≤ x) (l : List Nat) : actN (m :: l.map fun y => m + y) (m + x) = (actN l x).map fun l' => m :: l'.map fun y => m + y := by
  have k2 : (m + x ∈ m :: l.map fun y => m + y) ↔ x ∈ l := by
    rw [List.mem_cons, mem_shift]
    exact ⟨fun h => h.resolve_left (by omega), .inr⟩
  have k1 : (decide (1 < m + x) && !decide (m + x - 1 ∈ m :: l.map fun y => m + y)) = (decide (1 < x) && !decide (x - 1 ∈ l)) := by
    by_cases e : x = 1
    · subst e
      have : m + 1 - 1 ∈ m :: l.map fun y => m + y := by rw [Nat.add_sub_cancel]; exact List.mem_cons_self
      simp [this]
    · have q : (m + x - 1 ∈ m :: l.map fun y => m + y) ↔ x - 1 ∈ l := by
        rw [show m + x - 1 = m + (x - 1) by omega, List.mem_cons, mem_shift]
        exact ⟨fun h => h.resolve_left (by omega), .inr⟩
      have h1 : 1 < m + x := by omega
      have h2 : 1 < x := by omega
      simp [q, h1, h2]
  unfold actN
  rw [k1]
  by_cases c : (decide (1 < x) && !decide (x - 1 ∈ l)) = true
  · rw [if_pos c, if_pos c]; rfl
  · rw [if_neg c, if_neg c]
    by_cases c2 : x ∈ l
    · rw [if_pos c2, if_pos (k2.mpr c2)]
      show some ((m :: _).filter _) = some _
      rw [List.filter_cons, if_pos (by simp; omega), filter_shift]
    · rw [if_neg c2, if_neg (fun z => c2 (k2.mp z))]
      show some _ = some _
      rw [insN_head (by omega), insN_shift]
theorem actN_pos {l l' : List Nat} {x : Nat} (h0 : ∀ y ∈ l, 1 ≤ y) (hx : 1 ≤ x) (h : actN l x = some l') : ∀ y ∈ l', 1 ≤ y := fun y hy => by
  unfold actN at h
  split at h
  · cases h
  · split at h
    · cases h
      exact h0 y (List.mem_filter.mp hy).1
    · cases h
      rcases mem_insN.mp hy with rfl | hy
      · exact hx
      · exact h0 y hy
theorem runW_shift {p m : Nat} (hm : 1 ≤ m) : ∀ (v l : List Nat), (∀ x ∈ v, 1 ≤ x) → (∀ y ∈ l, 1 ≤ y) → runW (p + 1) (v.map fun y => m + y) (m :: l.map fun y => m + y) = (runW p v l).map fun l' => m :: l'.map fun y => m + y
  | [], _, _, _ => rfl
  | x :: v, l, hv, hl => by
    have hx := hv x List.mem_cons_self
    rw [List.map_cons]
    unfold runW
    rw [actN_shift hm hx l]
    cases ha : actN l x with
    | none => rfl
    | some l' =>
      show (if p + 1 < (m :: l'.map fun y => m + y).length then none else _) = (if p < l'.length then none else _).map _
      have e : (m :: l'.map fun y => m + y).length = l'.length + 1 := by simp
      rw [e]
      by_cases c : p < l'.length
      · rw [if_pos c, if_pos (by omega)]; rfl
      · rw [if_neg c, if_neg (by omega)]
        exact runW_shift hm v l' (fun x h => hv x (List.mem_cons_of_mem _ h)) (actN_pos hl hx ha)
theorem insN_far {x t : Nat} (h : x < t) : ∀ l : List Nat, insN x (l ++ [t]) = insN x l ++ [t]
  | [] => by show (if x < t then _ else _) = _; rw [if_pos h]; rfl
  | y :: l => by
    show (if x < y then _ else if x = y then _ else _) = (if x < y then _ else if x = y then _ else _) ++ [t]
    split
    · rfl
    · split
      · rfl
      · show y :: insN x (l ++ [t]) = _
        rw [insN_far h l]; rfl
theorem actN_far {x t : Nat} (h : x < t) (l : List Nat) : actN (l ++ [t]) x = (actN l x).map fun l' => l' ++ [t] := by
  have k : ∀ z, z < t → ((z ∈ l ++ [t]) ↔ z ∈ l) := fun z hz => by
    rw [List.mem_append, List.mem_singleton]
    exact ⟨fun q => q.resolve_right (by omega), .inl⟩
  unfold actN
  rw [decide_eq_decide.mpr (k (x - 1) (by omega))]
  by_cases c : (decide (1 < x) && !decide (x - 1 ∈ l)) = true
  · rw [if_pos c, if_pos c]; rfl
  · rw [if_neg c, if_neg c]
    by_cases c2 : x ∈ l
    · rw [if_pos c2, if_pos ((k x h).mpr c2), List.filter_append]
      show some _ = some _
      congr 2
      rw [List.filter_cons, if_pos (by simp; omega)]; rfl
    · rw [if_neg c2, if_neg (fun z => c2 ((k x h).mp z))]
      show some _ = some _
      rw [insN_far h]
theorem runW_far {p t : Nat} : ∀ (v l : List Nat), (∀ x ∈ v, x < t) → runW (p + 1) v (l ++ [t]) = (runW p v l).map fun l' => l' ++ [t]
  | [], _, _ => rfl
  | x :: v, l, hv => by
    unfold runW
    rw [actN_far (hv x List.mem_cons_self)]
    cases ha : actN l x with
    | none => rfl
    | some l' =>
      show (if p + 1 < (l' ++ [t]).length then none else _) = (if p < l'.length then none else _).map _
      have e : (l' ++ [t]).length = l'.length + 1 := by simp
      rw [e]
      by_cases c : p < l'.length
      · rw [if_pos c, if_pos (by omega)]; rfl
      · rw [if_neg c, if_neg (by omega)]
        exact runW_far v l' (fun x h => hv x (List.mem_cons_of_mem _ h))
/-- a way there, and back again -/
structure Way (p s : Nat) (v : List Nat) : Prop where
  pos : 1 ≤ s
  inn : ∀ x ∈ v, 1 ≤ x ∧ x ≤ s
  there : runW p v [] = some [s]
  back : runW p v.reverse [s] = some []
theorem Way.mono {p q s : Nat} {v : List Nat} (h : Way p s v) (hq : p ≤ q) : Way q s v := ⟨h.pos, h.inn, runW_mono hq _ _ _ h.there, runW_mono hq _ _ _ h.back⟩
theorem Way.one {p : Nat} (h : 1 ≤ p) : Way p 1 [1] where
  pos := Nat.le_refl _
  inn := fun x hx => by rw [List.mem_singleton.mp hx]; exact ⟨Nat.le_refl _, Nat.le_refl _⟩
  there := by
    show (if p < 1 then none else some [1]) = _
    rw [if_neg (by omega)]
  back := by
    show (if p < 0 then none else some []) = _
    rw [if_neg (by omega)]
theorem Way.put {p m t : Nat} {a b c : List Nat} (ha : Way (p + 1) m a) (hb : Way p t b) (hc : Way p m c) : Way (p + 1) (m + t) (a ++ (b.map fun x => m + x) ++ c.reverse) where
  pos := by have := ha.pos; omega
  inn := fun x hx => by
    have := hb.pos
    have := ha.pos
    rcases List.mem_append.mp hx with hx | hx
    · rcases List.mem_append.mp hx with hx | hx
      · have := ha.inn x hx
        omega
      · obtain ⟨y, hy, rfl⟩ := List.mem_map.mp hx
        have := hb.inn y hy
        omega
    · have := hc.inn x (List.mem_reverse.mp hx)
      omega
  there := by
    have h1 := runW_shift (p := p) ha.pos b [] (fun x hx => (hb.inn x hx).1) (by intro y hy; cases hy)
    have h2 := runW_far (p := p) (t := m + t) c.reverse [m] (fun x hx => by have := hc.inn x (List.mem_reverse.mp hx); have := hb.pos; omega)
    rw [runW_cat, runW_cat, ha.there]
    show ((runW (p + 1) _ [m]).bind _) = _
    rw [List.map_nil] at h1
    rw [h1, hb.there]
    show runW (p + 1) c.reverse ([m] ++ [m + t]) = _
    rw [h2, hc.back]
    rfl
  back := by
    have h1 := runW_shift (p := p) ha.pos b.reverse [t] (fun x hx => (hb.inn x (List.mem_reverse.mp hx)).1) (by intro y hy; rw [List.mem_singleton.mp hy]; exact hb.pos)
    have h2 := runW_far (p := p) (t := m + t) c [] (fun x hx => by have := hc.inn x hx; have := hb.pos; omega)
    rw [List.reverse_append, List.reverse_append, List.reverse_reverse, runW_cat]
    show (runW (p + 1) c ([] ++ [m + t])).bind _ = _
    rw [h2, hc.there, ← List.map_reverse]
    show runW (p + 1) (b.reverse.map (fun y => m + y) ++ a.reverse) (m :: [t].map fun y => m + y) = _
    rw [runW_cat, h1, hb.back]
    exact ha.back
theorem way_actsM : ∀ n s p, okM n s p = true → 1 ≤ s → Way p s (actsM n s p)
  | 0, _, _, h, _ => by cases h
  | n + 1, s, p, h, hs => by
    have hp := okM_pos h
    unfold actsM
    by_cases e : s = 1
    · subst e
      exact Way.one hp
    · obtain ⟨h1, h2, h3, h4, h5⟩ := okM_step h e
      rw [if_neg e]
      have := Way.put (p := p - 1) ((way_actsM n _ _ h3 h1).mono (by omega)) (way_actsM n _ _ h4 (by omega)) (way_actsM n _ _ h5 h1)
      rw [show p - 1 + 1 = p by omega, show mT p s + (s - mT p s) = s by omega] at this
      exact this
/-! ### what the law asks of pebbles -/
theorem aT_eq {s p : Nat} (h1 : 1 ≤ s) (h60 : s ≤ 60) (hp : p ≤ 11) : (tabRow s (min s p)).getD s 0 = aT s p := by
  unfold aT
  rw [mnB_eq]
  exact tab_eq h1 h60 (min s p) (by omega) s (Nat.le_refl _)
theorem actsD_int {s p : Nat} (h1 : 1 ≤ s) (h60 : s ≤ 60) (hp : p ≤ 11) (h : aT s p ≤ 1000) : actsD s p = .int (aT s p : Int) := by
  unfold actsD
  rw [aT_eq h1 h60 hp, if_neg]
  intro e
  rw [e] at h
  exact absurd h (by decide)
theorem pebB_of {s : Nat} (h1 : 1 ≤ s) (h : s ≤ 20) : pebB s = pebN s ∧ 1 ≤ pebN s ∧ pebN s ≤ 6 := by
  have q := allR pebB_eq (i := s - 1) (by omega)
  rw [show s - 1 + 1 = s by omega, Bool.and_eq_true, Bool.and_eq_true] at q
  have e := Nat.eq_of_beq_eq_true q.1.1
  rw [← e]
  exact ⟨rfl, Nat.le_of_ble_eq_true q.1.2, Nat.le_of_ble_eq_true q.2⟩
theorem way_of {s p : Nat} (h1 : 1 ≤ s) (h : s ≤ 20) (hp : p ≤ 10) (hn : pebN s ≤ p) : wayOk s p = true ∧ Way p s (wayOf s p) ∧ (wayOf s p).length = aT s p ∧ aT s p ≤ 1000 := by
  have q := allR (allR chk_way (i := s - 1) (by omega)) (i := p) (by omega)
  rw [show s - 1 + 1 = s by omega] at q
  unfold chkWay at q
  obtain ⟨e, k1, k6⟩ := pebB_of h1 h
  rw [e, Nat.ble_eq_true_of_le hn] at q
  simp only [Bool.not_true, Bool.false_or, Bool.and_eq_true, mnB_eq] at q
  obtain ⟨⟨q1, q2⟩, q3⟩ := q
  have q2 := Nat.eq_of_beq_eq_true q2
  have q3 := Nat.le_of_ble_eq_true q3
  obtain ⟨e1, e2⟩ := acts_eqM (S := s) (q := min s p) (by omega) (by omega) 20 s (min s p) q1 (Nat.le_refl _) (Nat.le_refl _)
  have ew : wayOf s p = actsM 20 s (min s p) := e1
  have el : (wayOf s p).length = aT s p := by rw [ew, lenM_eq 20 _ _ q1, q2]
  refine ⟨?_, ?_, el, q3⟩
  · have h3 : ¬ (tabRow s (min s p)).getD s 0 = NV := by
      rw [aT_eq h1 (by omega) (by omega)]
      intro z
      rw [z] at q3
      exact absurd q3 (by decide)
    have h4 : 1 ≤ p := by omega
    have h5 : p ≤ 20 := by omega
    have h6 : (wayOf s p).length ≤ 1000 := by omega
    unfold wayOk
    simp only [h1, h, h3, h4, h5, h6, e2, decide_true, decide_false, Bool.not_false, Bool.and_self]
  · rw [ew]
    exact (way_actsM 20 s _ q1 h1).mono (Nat.min_le_right _ _)
theorem farUp_is {p a : Nat} (hp : p ≤ 11) : ∀ i n, n ≤ i → i ≤ 60 → 1 ≤ n → fT p n ≤ a → n ≤ farUp p a i ∧ farUp p a i ≤ i ∧ fT p (farUp p a i) ≤ a
  | 0, n, hn, _, h1, _ => by omega
  | i + 1, n, hn, hi, h1, ha => by
    unfold farUp
    rw [tab_eq (by decide) (by decide) p hp (i + 1) hi]
    by_cases c : fT p (i + 1) ≤ a
    · rw [if_pos c]
      exact ⟨hn, Nat.le_refl _, c⟩
    · rw [if_neg c]
      have hne : n ≠ i + 1 := fun e => c (e ▸ ha)
      obtain ⟨q1, q2, q3⟩ := farUp_is hp i n (by omega) (by omega) h1 ha
      exact ⟨q1, by omega, q3⟩
structure Peb (s f p : Nat) : Prop where
  s1 : 1 ≤ s
  s20 : s ≤ 20
  f1 : 1 ≤ f
  f20 : f ≤ 20
  p2 : 2 ≤ p
  p9 : p ≤ 9
  w1 : wayOk s p = true
  w2 : wayOk f (p - 1) = true
  w3 : wayOk s (p - 1) = true
  in1 : ∀ x ∈ wayOf s p, 1 ≤ x ∧ x ≤ s
  in2 : ∀ x ∈ wayOf f (p - 1), 1 ≤ x ∧ x ≤ f
  in3 : ∀ x ∈ wayOf s (p - 1), 1 ≤ x ∧ x ≤ s
  l1 : (wayOf s p).length ≤ 1000
  l2 : (wayOf f (p - 1)).length ≤ 1000
  l3 : (wayOf s (p - 1)).length ≤ 1000
  i1 : isWay (s + f) p (wayOf s p ++ ((wayOf f (p - 1)).map fun x => s + x) ++ (wayOf s (p - 1)).reverse) = true
  i2 : isWay s p (wayOf s p ++ (wayOf s p).reverse) = false
  i3 : isWay s p (wayOf s p ++ (wayOf s p).reverse ++ wayOf s p) = true
  i4 : isWay s (p + 1) (wayOf s p) = true
  m : actsD (s + f) p = .int (aT (s + f) p : Int)
  m1 : aT (s + f) p ≤ (wayOf s p ++ ((wayOf f (p - 1)).map fun x => s + x) ++ (wayOf s (p - 1)).reverse).length
  m2 : aT (s + f) p % 2 = 1
  a : actsD s p = .int (aT s p : Int)
  m3 : aT s p + 2 * f ≤ aT (s + f) p
  rows : ∀ k, pebN s ≤ k → k < p + 3 → actsD s k = .int (aT s k : Int)
  fall : ∀ k, pebN s ≤ k → k < p + 2 → aT s (k + 1) ≤ aT s k
  few : s ≠ 1 → actsD s (pebN s - 1) = .none
  nd1 : 1 ≤ pebN s
  nd6 : pebN s ≤ 6
  nd7 : pebN s < p
  g1 : s + f ≤ farN p (aT (s + f) p)
  g60 : farN p (aT (s + f) p) ≤ 60
  g : actsD (farN p (aT (s + f) p)) p = .int (aT (farN p (aT (s + f) p)) p : Int)
  g2 : aT (farN p (aT (s + f) p)) p ≤ aT (s + f) p
theorem run_isWay {n p : Nat} {v : List Nat} (h : runW p v [] = some [n]) : isWay n p v = true := by
  unfold isWay
  rw [h]
  cases v with
  | nil => cases h
  | cons x v => simp
theorem Way.nil {p s : Nat} {v : List Nat} (h : Way p s v) : runW p (v ++ v.reverse) [] = some [] := by
  rw [runW_cat, h.there]
  exact h.back
theorem peb_all {s f d : Nat} (s1 : 1 ≤ s) (s20 : s ≤ 20) (f1 : 1 ≤ f) (f20 : f ≤ 20) (hd : d < 3) : Peb s f (max (pebN s) (pebN f) + 1 + d) := by
  obtain ⟨es, es1, es6⟩ := pebB_of s1 s20
  obtain ⟨ef, ef1, ef6⟩ := pebB_of f1 f20
  have two := allR (allR (allR chk_two (i := s - 1) (by omega)) (i := f - 1) (by omega)) (i := d) hd
  rw [show s - 1 + 1 = s by omega, show f - 1 + 1 = f by omega] at two
  have ep : (bif Nat.ble (pebB s) (pebB f) then pebB f else pebB s) = max (pebN s) (pebN f) := by
    rw [es, ef]
    cases h : Nat.ble (pebN s) (pebN f) with
    | true => rw [Nat.max_eq_right (Nat.le_of_ble_eq_true h)]; rfl
    | false =>
      have : ¬ pebN s ≤ pebN f := fun z => by rw [Nat.ble_eq_true_of_le z] at h; cases h
      rw [Nat.max_eq_left (by omega)]; rfl
  unfold chkTwo at two
  rw [ep] at two
  generalize hp : max (pebN s) (pebN f) + 1 + d = p at *
  simp only [Bool.and_eq_true] at two
  obtain ⟨⟨⟨⟨t1, t2⟩, t3⟩, t4⟩, t5⟩ := two
  have t1 := Nat.le_of_ble_eq_true t1
  have t2 := Nat.le_of_ble_eq_true t2
  have t3 := Nat.eq_of_beq_eq_true t3
  have t4 := Nat.le_of_ble_eq_true t4
  have t5 := Nat.le_of_ble_eq_true t5
  obtain ⟨w1, y1, l1, b1⟩ := way_of (p := p) s1 s20 (by omega) (by omega)
  obtain ⟨w2, y2, l2, b2⟩ := way_of (p := p - 1) f1 f20 (by omega) (by omega)
  obtain ⟨w3, y3, l3, b3⟩ := way_of (p := p - 1) s1 s20 (by omega) (by omega)
  obtain ⟨q, rfl⟩ : ∃ q, p = q + 1 := ⟨p - 1, by omega⟩
  rw [Nat.add_sub_cancel] at *
  have falls : ∀ k, pebN s ≤ k → k < 12 → aT s (k + 1) ≤ aT s k ∧ aT s k ≤ 1000 := fun k h1 h2 => by
    have h := allR (allR chk_fall (i := s - 1) (by omega)) (i := k) (by omega)
    rw [show s - 1 + 1 = s by omega] at h
    unfold chkFall at h
    rw [es, Nat.ble_eq_true_of_le h1] at h
    simp only [Bool.not_true, Bool.false_or, Bool.and_eq_true] at h
    exact ⟨Nat.le_of_ble_eq_true h.1, Nat.le_of_ble_eq_true h.2⟩
  have far := farUp_is (p := q + 1) (a := aT (s + f) (q + 1)) (by omega) 60 (s + f) (by omega) (by omega) (by omega) t5
  obtain ⟨g1, g2, g3⟩ := far
  have g4 : aT (farN (q + 1) (aT (s + f) (q + 1))) (q + 1) ≤ aT (s + f) (q + 1) := by
    have h := allR (allR chk_far (i := farN (q + 1) (aT (s + f) (q + 1)) - 1) (by show farUp _ _ 60 - 1 < 60; omega)) (i := q + 1) (by omega)
    rw [show farN (q + 1) (aT (s + f) (q + 1)) - 1 + 1 = farN (q + 1) (aT (s + f) (q + 1)) by show farUp _ _ 60 - 1 + 1 = farUp _ _ 60; omega] at h
    rcases Bool.or_eq_true_iff.mp h with h | h
    · have := Nat.eq_of_beq_eq_true h
      omega
    · exact Nat.le_trans (Nat.le_of_ble_eq_true h) g3
  exact
  { s1 := s1, s20 := s20, f1 := f1, f20 := f20
    p2 := by omega
    p9 := by omega
    w1 := w1, w2 := w2, w3 := w3
    in1 := y1.inn, in2 := y2.inn, in3 := y3.inn
    l1 := by omega
    l2 := by show (wayOf f q).length ≤ 1000; omega
    l3 := by show (wayOf s q).length ≤ 1000; omega
    i1 := run_isWay (Way.put y1 y2 y3).there
    i2 := by
      unfold isWay
      rw [y1.nil]
      simp
    i3 := run_isWay (by rw [runW_cat, y1.nil]; exact y1.there)
    i4 := run_isWay (y1.mono (Nat.le_succ _)).there
    m := actsD_int (by omega) (by omega) (by omega) t1
    m1 := by
      rw [List.length_append, List.length_append, List.length_map, List.length_reverse]
      show _ ≤ (wayOf s (q + 1)).length + (wayOf f q).length + (wayOf s q).length
      omega
    m2 := t3
    a := actsD_int s1 (by omega) (by omega) b1
    m3 := t4
    rows := fun k h1 h2 => actsD_int s1 (by omega) (by omega) (falls k h1 (by omega)).2
    fall := fun k h1 h2 => (falls k h1 (by omega)).1
    few := fun h1 => by
      have h := allR chk_few (i := s - 1) (by omega)
      rw [show s - 1 + 1 = s by omega] at h
      have h := (Bool.or_eq_true_iff.mp h).resolve_left fun z => by have := Nat.le_of_ble_eq_true z; omega
      have h := Nat.eq_of_beq_eq_true h
      rw [es] at h
      unfold actsD
      rw [aT_eq s1 (by omega) (by omega), if_pos h]
    nd1 := es1
    nd6 := es6
    nd7 := by omega
    g1 := g1
    g60 := g2
    g := actsD_int (by show 1 ≤ farUp _ _ 60; omega) g2 (by omega) (by omega)
    g2 := g4 }
end Rb
end
section
set_option autoImplicit false
namespace Rb
open PySem
/-! ### there is an order of the least load -/
theorem best_chain {r : Row} (ok : r.Ok) : ∀ (k : Nat) (l f : List Nat), l.length = k → Lot r l → Chain r l f → max (bestOf r l) (chainLoad r l f) = bestOf r (needed r) → ∃ o, IsOrd r o ∧ loadOf r o = bestOf r (needed r)
  | 0, l, f, hl, _, ch, hm => by
    have e : l = [] := List.length_eq_zero_iff.mp hl
    subst e
    refine ⟨f, ch.ord, ?_⟩
    rw [ch.loadOf, ← hm]
    show _ = max 0 _
    rw [Nat.zero_max]
  | k + 1, l, f, hl, lot, ch, hm => by
    have lne : l ≠ [] := fun e => by rw [e] at hl; cases hl
    obtain ⟨x, hx, e⟩ := List.mem_map.mp (minL_mem (l := (lastOnes r l).map fun x => bestOf r (without l x)) (by
      simp only [ne_eq, List.map_eq_nil_iff]
      exact lastOnes_ne ok lot lne))
    have hxl := (mem_lastOnes.mp hx).1
    have hlw := without_len lot.nodup hxl
    refine best_chain ok k (without l x) (x :: f) (by omega) (lot.without hx) (Chain.cons (fun z => (mem_without.mp z).2 rfl) (fun u hu => mem_without.mpr ⟨lot.down x hxl u hu, fun e => by have := ok.use hu; omega⟩) (by rw [ins_without lot.rise hxl]; exact ch)) ?_
    show max (bestOf r (without l x)) (max (heldOf r (insN x (without l x))).length (chainLoad r (insN x (without l x)) f)) = _
    rw [ins_without lot.rise hxl, ← hm, bestOf_eq' lot.nodup lne, ← e]
    omega
theorem best_ex {r : Row} (ok : r.Ok) : ∃ o, IsOrd r o ∧ loadOf r o = leastLoad r := by
  cases hw : isWood r with
  | true =>
    have wd := wood_of ok hw
    exact ⟨woodOrd r r.steps.length, woodOrd_ord ok wd (Nat.le_refl _), wood_load ok hw (Nat.le_refl _)⟩
  | false =>
    obtain ⟨o, h1, h2⟩ := best_chain ok (needed r).length (needed r) [] rfl (Lot.all ok) Chain.nil (Nat.max_zero _)
    refine ⟨o, h1, ?_⟩
    rw [h2]
    unfold leastLoad
    rw [if_neg (by rw [hw]; exact Bool.false_ne_true)]
/-! ### orders, cut -/
theorem ord_split {r : Row} {o : List Nat} (hp : o.Perm (needed r)) (h : ∀ a x b, o = a ++ x :: b → ∀ u ∈ r.uses x, u ∈ a) : IsOrd r o where
  perm := hp
  uses := fun t x ht u hu => by
    obtain ⟨hl, e⟩ := List.getElem?_eq_some_iff.mp ht
    refine h (o.take t) x (o.drop (t + 1)) ?_ u hu
    have := (List.take_append_drop t o).symm
    rw [List.drop_eq_getElem_cons hl, e] at this
    exact this
theorem IsOrd.split {r : Row} {o a b : List Nat} {x : Nat} (h : IsOrd r o) (e : o = a ++ x :: b) : ∀ u ∈ r.uses x, u ∈ a := fun u hu => by
  have := h.uses a.length x (by rw [e, List.getElem?_append_right (Nat.le_refl _), Nat.sub_self]; rfl) u hu
  rw [e, List.take_left] at this
  exact this
def upN (n : Nat) (l : List Nat) : List Nat := l.map fun x => n + x
theorem mem_upN {n x : Nat} {l : List Nat} : n + x ∈ upN n l ↔ x ∈ l := by
  unfold upN
  rw [List.mem_map]
  exact ⟨fun ⟨y, hy, e⟩ => by have : y = x := by omega
                              exact this ▸ hy, fun h => ⟨x, h, rfl⟩⟩
theorem not_upN {n x : Nat} {l : List Nat} (h : x < n) : x ∉ upN n l := fun z => by
  obtain ⟨y, _, e⟩ := List.mem_map.mp z
  omega
section
variable {r s : Row} (h : r.Ok) (h' : s.Ok) (hb : (besideR r s).Ok)
include h h' hb
theorem beside_nd : needed (besideR r s) = needed r ++ upN r.steps.length (needed s) := beside_needed h h' hb
theorem users1 {x : Nat} (hx : x < r.steps.length) : users (besideR r s) x = users r x := by
  unfold users
  rw [beside_nd h h' hb, List.filter_append]
  have e2 : (upN r.steps.length (needed s)).filter (fun y => decide (x ∈ (besideR r s).uses y)) = [] := by
    rw [List.filter_eq_nil_iff]
    intro y hy
    obtain ⟨z, _, rfl⟩ := List.mem_map.mp hy
    rw [beside_uses2]
    simp only [decide_eq_true_eq]
    exact not_upN hx
  rw [e2, List.append_nil]
  refine List.filter_congr fun y hy => ?_
  rw [beside_uses1 (nd_lt hy)]
theorem users2 (x : Nat) : users (besideR r s) (r.steps.length + x) = upN r.steps.length (users s x) := by
  unfold users
  rw [beside_nd h h' hb, List.filter_append]
  have e1 : (needed r).filter (fun y => decide (r.steps.length + x ∈ (besideR r s).uses y)) = [] := by
    rw [List.filter_eq_nil_iff]
    intro y hy
    have hl := nd_lt hy
    rw [beside_uses1 hl]
    simp only [decide_eq_true_eq]
    intro z
    have := h.use z
    omega
  rw [e1, List.nil_append]
  unfold upN
  rw [List.filter_map]
  congr 1
  refine List.filter_congr fun y hy => ?_
  show decide (_ ∈ (besideR r s).uses (r.steps.length + y)) = _
  rw [beside_uses2]
  exact decide_eq_decide.mpr mem_upN
theorem lastOnes_two {a b : List Nat} (ha : ∀ x ∈ a, x < r.steps.length) : lastOnes (besideR r s) (a ++ upN r.steps.length b) = lastOnes r a ++ upN r.steps.length (lastOnes s b) := by
  unfold lastOnes
  rw [List.filter_append]
  congr 1
  · refine List.filter_congr fun x hx => ?_
    rw [users1 h h' hb (ha x hx)]
    congr 1
    refine Bool.eq_iff_iff.mpr ?_
    rw [List.any_eq_true, List.any_eq_true]
    refine exists_congr fun y => and_congr_right fun hy => ?_
    rw [decide_eq_true_eq, decide_eq_true_eq, List.mem_append]
    exact ⟨fun q => q.resolve_right (not_upN (nd_lt (List.mem_filter.mp hy).1)), .inl⟩
  · unfold upN
    rw [List.filter_map]
    congr 1
    refine List.filter_congr fun x hx => ?_
    show (!(users (besideR r s) (r.steps.length + x)).any _) = _
    rw [users2 h h' hb]
    congr 1
    unfold upN
    rw [List.any_map]
    refine Bool.eq_iff_iff.mpr ?_
    rw [List.any_eq_true, List.any_eq_true]
    refine exists_congr fun y => and_congr_right fun hy => ?_
    show decide _ = true ↔ _
    rw [decide_eq_true_eq, decide_eq_true_eq, List.mem_append]
    constructor
    · rintro (q | q)
      · have : r.steps.length + y < r.steps.length := ha _ q
        omega
      · exact mem_upN.mp q
    · exact fun q => .inr (mem_upN.mpr q)
end
theorem without1 {n x : Nat} {a b : List Nat} (hx : x < n) : without (a ++ upN n b) x = without a x ++ upN n b := by
  unfold without
  rw [List.filter_append]
  congr 1
  rw [List.filter_eq_self]
  intro y hy
  obtain ⟨z, _, rfl⟩ := List.mem_map.mp hy
  simp
  omega
theorem without2 {n x : Nat} {a b : List Nat} (ha : ∀ y ∈ a, y < n) : without (a ++ upN n b) (n + x) = a ++ upN n (without b x) := by
  unfold without
  rw [List.filter_append]
  congr 1
  · rw [List.filter_eq_self]
    intro y hy
    have := ha y hy
    simp
    omega
  · unfold upN
    rw [List.filter_map]
    congr 1
    refine List.filter_congr fun y _ => ?_
    show (!decide (n + y = n + x)) = _
    congr 1
    exact decide_eq_decide.mpr ⟨fun h => by omega, fun h => by omega⟩
/-! ### choosing -/
def chN : Nat → Nat → Nat
  | _, 0 => 1
  | 0, _ + 1 => 0
  | n + 1, k + 1 => chN n k + chN n (k + 1)
theorem chN_zero : ∀ {n k : Nat}, n < k → chN n k = 0
  | 0, k + 1, _ => rfl
  | n + 1, k + 1, h => by
    show chN n k + chN n (k + 1) = 0
    rw [chN_zero (by omega), chN_zero (by omega)]
theorem chN_step : ∀ (m k : Nat), (k + 1) * chN m (k + 1) + k * chN m k = m * chN m k
  | 0, 0 => rfl
  | 0, k + 1 => by
    show (k + 2) * 0 + (k + 1) * 0 = 0 * 0
    omega
  | m + 1, 0 => by
    have : (0 + 1) * chN m 1 + 0 * chN m 0 = m * chN m 0 := chN_step m 0
    show (0 + 1) * (chN m 0 + chN m 1) + 0 * chN (m + 1) 0 = (m + 1) * 1
    have e : chN m 0 = 1 := by cases m <;> rfl
    rw [e] at this ⊢
    omega
  | m + 1, k + 1 => by
    have h1 := chN_step m (k + 1)
    have h2 := chN_step m k
    show (k + 1 + 1) * (chN m (k + 1) + chN m (k + 1 + 1)) + (k + 1) * (chN m k + chN m (k + 1)) = (m + 1) * (chN m k + chN m (k + 1))
    generalize chN m (k + 1) = X at *
    generalize chN m (k + 1 + 1) = Z at *
    generalize chN m k = Y at *
    simp only [Nat.add_mul, Nat.mul_add, Nat.one_mul] at *
    omega
/-! ### how many orders two rows have -/
theorem countF_open {r : Row} {most k : Nat} {l : List Nat} (hl : l.length ≤ most) : countF r most (k + 1) l = ((lastOnes r l).map fun x => countF r most k (without l x)).sum := by
  show (if (heldOf r l).length ≤ most then _ else 0) = _
  rw [if_pos (show (heldOf r l).length ≤ most from Nat.le_trans (List.length_filter_le _ _) hl)]
theorem sum_mul {α : Type} (f g : α → Nat) (c : Nat) : ∀ l : List α, (∀ x ∈ l, g x = f x * c) → (l.map g).sum = (l.map f).sum * c
  | [], _ => by simp
  | x :: l, h => by
    rw [List.map_cons, List.sum_cons, List.map_cons, List.sum_cons, sum_mul f g c l (fun y hy => h y (List.mem_cons_of_mem _ hy)), h x List.mem_cons_self, Nat.add_mul]
theorem count_two {r s : Row} (h : r.Ok) (h' : s.Ok) (hb : (besideR r s).Ok) : ∀ (k i j : Nat) (a b : List Nat), i + j = k → k ≤ 12 → Lot r a → Lot s b → a.length = i → b.length = j →
    countF (besideR r s) 12 k (a ++ upN r.steps.length b) = countF r 12 i a * countF s 12 j b * chN k i
  | 0, i, j, a, b, hk, _, _, _, ha, hb' => by
    obtain rfl : i = 0 := by omega
    obtain rfl : j = 0 := by omega
    rfl
  | k + 1, i, j, a, b, hk, h12, la, lb, ha, hb' => by
    have alt : ∀ x ∈ a, x < r.steps.length := fun x hx => nd_lt (la.sub x hx)
    rw [countF_open (by rw [List.length_append]; unfold upN; rw [List.length_map]; omega), lastOnes_two h h' hb alt, List.map_append, List.sum_append]
    have s1 : ((lastOnes r a).map fun x => countF (besideR r s) 12 k (without (a ++ upN r.steps.length b) x)).sum = countF r 12 i a * countF s 12 j b * (if i = 0 then 0 else chN k (i - 1)) := by
      cases i with
      | zero =>
        have e : a = [] := List.length_eq_zero_iff.mp ha
        subst e
        simp [lastOnes]
      | succ i =>
        rw [if_neg (by omega), Nat.add_sub_cancel, Nat.mul_assoc, countF_open (r := r) (by omega)]
        refine sum_mul _ _ _ _ fun x hx => ?_
        have hxa := (mem_lastOnes.mp hx).1
        have hl := without_len la.nodup hxa
        rw [without1 (alt x hxa), count_two h h' hb k i j (without a x) b (by omega) (by omega) (la.without hx) lb (by omega) hb', Nat.mul_assoc]
    have s2 : ((upN r.steps.length (lastOnes s b)).map fun x => countF (besideR r s) 12 k (without (a ++ upN r.steps.length b) x)).sum = countF r 12 i a * countF s 12 j b * chN k i := by
      unfold upN
      rw [List.map_map]
      cases j with
      | zero =>
        have e : b = [] := List.length_eq_zero_iff.mp hb'
        subst e
        rw [chN_zero (n := k) (k := i) (by omega)]
        simp [lastOnes]
      | succ j =>
        rw [Nat.mul_comm (countF r 12 i a), Nat.mul_assoc, countF_open (r := s) (by omega)]
        refine sum_mul _ _ _ _ fun y hy => ?_
        have hyb := (mem_lastOnes.mp hy).1
        have hl := without_len lb.nodup hyb
        show countF (besideR r s) 12 k (without (a ++ upN r.steps.length b) (r.steps.length + y)) = _
        rw [without2 alt, count_two h h' hb k i j a (without b y) (by omega) (by omega) la (lb.without hy) ha (by omega), Nat.mul_comm (countF r 12 i a), Nat.mul_assoc]
    rw [s1, s2, ← Nat.mul_add]
    congr 1
    cases i with
    | zero =>
      rw [if_pos rfl, Nat.zero_add]
      cases k <;> rfl
    | succ i => rfl
theorem count_both {r s : Row} (h : r.Ok) (h' : s.Ok) (hb : (besideR r s).Ok) (hl : (needed r).length + (needed s).length ≤ 12) : countOf (besideR r s) 12 (needed (besideR r s)) = countOf r 12 (needed r) * countOf s 12 (needed s) * chN ((needed r).length + (needed s).length) (needed r).length := by
  unfold countOf
  rw [beside_nd h h' hb, List.length_append]
  show countF _ 12 (_ + (upN _ _).length) _ = _
  rw [show (upN r.steps.length (needed s)).length = (needed s).length by unfold upN; rw [List.length_map]]
  exact count_two h h' hb _ _ _ _ _ rfl hl (Lot.all h) (Lot.all h') rfl rfl
/-! ### two rows hold no less than each -/
theorem held_both {r : Row} {o l m : List Nat} (he : o = l ++ m) (hne : l ≠ []) : (heldOf r l).length ≤ loadOf r o := by
  have hp : 0 < l.length := List.length_pos_iff.mpr hne
  have := le_loadOf (r := r) (o := o) (t := l.length - 1) (by rw [he, List.length_append]; omega)
  rw [show l.length - 1 + 1 = l.length by omega, he, List.take_left] at this
  rw [he]
  exact this
theorem least_both {r s : Row} (h : r.Ok) (h' : s.Ok) (hb : (besideR r s).Ok) : leastLoad r ≤ leastLoad (besideR r s) ∧ leastLoad s ≤ leastLoad (besideR r s) := by
  obtain ⟨o, io, ho⟩ := best_ex hb
  have nd := beside_nd h h' hb
  have on := io.nodup
  constructor
  · have io1 : IsOrd r (o.filter fun x => decide (x < r.steps.length)) := by
      refine ord_split ?_ fun a x b e u hu => ?_
      · have := io.perm.filter fun x => decide (x < r.steps.length)
        rw [nd, List.filter_append] at this
        have e1 : (needed r).filter (fun x => decide (x < r.steps.length)) = needed r := List.filter_eq_self.mpr fun x hx => decide_eq_true (nd_lt hx)
        have e2 : (upN r.steps.length (needed s)).filter (fun x => decide (x < r.steps.length)) = [] := List.filter_eq_nil_iff.mpr fun x hx => by
          obtain ⟨z, _, rfl⟩ := List.mem_map.mp hx
          simp
        rwa [e1, e2, List.append_nil] at this
      · obtain ⟨l1, l2, e1, e2, e3⟩ := List.filter_eq_append_iff.mp e
        obtain ⟨l3, l4, e4, e5, e6, e7⟩ := List.filter_eq_cons_iff.mp e3
        have hx : x < r.steps.length := by simpa using e6
        have := io.split (a := l1 ++ l3) (x := x) (b := l4) (by rw [e1, e4, List.append_assoc]) u (by rw [beside_uses1 hx]; exact hu)
        have hu' : u < r.steps.length := Nat.lt_trans (h.use hu) hx
        rcases List.mem_append.mp this with q | q
        · rw [← e2]
          exact List.mem_filter.mpr ⟨q, decide_eq_true hu'⟩
        · exact absurd (decide_eq_true hu') (e5 u q)
    refine Nat.le_trans (least_le_load h io1) ?_
    rw [← ho]
    refine loadOf_le fun t ht => ?_
    obtain ⟨l1, l2, e1, e2, e3⟩ := List.filter_eq_append_iff.mp (List.take_append_drop (t + 1) (o.filter fun x => decide (x < r.steps.length))).symm
    have hne : l1 ≠ [] := fun z => by
      rw [z] at e2
      have := congrArg List.length e2
      rw [List.length_take] at this
      simp at this
      omega
    refine Nat.le_trans ?_ (held_both e1 hne)
    rw [← e2]
    have on1 : l1.Nodup := by rw [e1] at on; exact (List.nodup_append.mp on).1
    refine nodup_sub_len (heldOf_nodup (on1.filter _)) fun x hx => ?_
    obtain ⟨q1, q2⟩ := held_iff.mp hx
    obtain ⟨q3, q4⟩ := List.mem_filter.mp q1
    have hxl : x < r.steps.length := of_decide_eq_true q4
    refine held_iff.mpr ⟨q3, ?_⟩
    rcases q2 with q2 | ⟨y, hy, hu, hn⟩
    · exact .inl (List.mem_append_left _ q2)
    · refine .inr ⟨y, by rw [nd]; exact List.mem_append_left _ hy, by rw [beside_uses1 (nd_lt hy)]; exact hu, fun z => hn (List.mem_filter.mpr ⟨z, decide_eq_true (nd_lt hy)⟩)⟩
  · have up2 : upN r.steps.length ((o.filter fun x => !decide (x < r.steps.length)).map fun x => x - r.steps.length) = o.filter fun x => !decide (x < r.steps.length) := by
      unfold upN
      rw [List.map_map]
      refine (List.map_congr_left fun x hx => ?_).trans (List.map_id _)
      have := (List.mem_filter.mp hx).2
      simp at this
      show r.steps.length + (x - r.steps.length) = x
      omega
    generalize ho2 : ((o.filter fun x => !decide (x < r.steps.length)).map fun x => x - r.steps.length) = o2 at up2
    have io2 : IsOrd s o2 := by
      refine ord_split ?_ fun a x b e u hu => ?_
      · have := io.perm.filter fun x => !decide (x < r.steps.length)
        rw [nd, List.filter_append] at this
        have e1 : (needed r).filter (fun x => !decide (x < r.steps.length)) = [] := List.filter_eq_nil_iff.mpr fun x hx => by
          have := nd_lt hx
          simp
          omega
        have e2 : (upN r.steps.length (needed s)).filter (fun x => !decide (x < r.steps.length)) = upN r.steps.length (needed s) := List.filter_eq_self.mpr fun x hx => by
          obtain ⟨z, _, rfl⟩ := List.mem_map.mp hx
          simp
        rw [e1, e2, List.nil_append] at this
        have := this.map fun x => x - r.steps.length
        rw [ho2] at this
        unfold upN at this
        rw [List.map_map] at this
        have e3 : ((needed s).map ((fun x => x - r.steps.length) ∘ fun x => r.steps.length + x)) = needed s := (List.map_congr_left fun x _ => by show r.steps.length + x - r.steps.length = x; omega).trans (List.map_id _)
        rwa [e3] at this
      · have e' : (o.filter fun x => !decide (x < r.steps.length)) = upN r.steps.length a ++ (r.steps.length + x) :: upN r.steps.length b := by
          rw [← up2, e]
          unfold upN
          rw [List.map_append, List.map_cons]
        obtain ⟨l1, l2, e1, e2, e3⟩ := List.filter_eq_append_iff.mp e'
        obtain ⟨l3, l4, e4, e5, e6, e7⟩ := List.filter_eq_cons_iff.mp e3
        have := io.split (a := l1 ++ l3) (x := r.steps.length + x) (b := l4) (by rw [e1, e4, List.append_assoc]) (r.steps.length + u) (by rw [beside_uses2]; exact mem_upN.mpr hu)
        rcases List.mem_append.mp this with q | q
        · have q : r.steps.length + u ∈ upN r.steps.length a := by
            rw [← e2]
            exact List.mem_filter.mpr ⟨q, by simp⟩
          exact mem_upN.mp q
        · exact absurd (by simp) (e5 _ q)
    refine Nat.le_trans (least_le_load h' io2) ?_
    rw [← ho]
    refine loadOf_le fun t ht => ?_
    have e0 : (o.filter fun x => !decide (x < r.steps.length)) = upN r.steps.length (o2.take (t + 1)) ++ upN r.steps.length (o2.drop (t + 1)) := by
      rw [← up2]
      unfold upN
      rw [← List.map_append, List.take_append_drop]
    obtain ⟨l1, l2, e1, e2, e3⟩ := List.filter_eq_append_iff.mp e0
    have hne : l1 ≠ [] := fun z => by
      rw [z] at e2
      have := congrArg List.length e2
      unfold upN at this
      rw [List.length_map, List.length_take] at this
      simp at this
      omega
    refine Nat.le_trans ?_ (held_both e1 hne)
    have on2 : (o2.take (t + 1)).Nodup := io2.nodup.sublist (List.take_sublist _ _)
    have hm : ∀ z, r.steps.length + z ∈ l1 ↔ z ∈ o2.take (t + 1) := fun z => by
      refine Iff.trans ?_ (mem_upN (n := r.steps.length))
      rw [← e2, List.mem_filter]
      simp
    have := nodup_sub_len (l := upN r.steps.length (heldOf s (o2.take (t + 1)))) (m := heldOf (besideR r s) l1) (by
      unfold upN
      exact List.Pairwise.map _ (fun a b hab hc => hab (by omega)) (heldOf_nodup on2)) fun x hx => by
      obtain ⟨z, hz, rfl⟩ := List.mem_map.mp hx
      obtain ⟨q1, q2⟩ := held_iff.mp hz
      refine held_iff.mpr ⟨(hm z).mpr q1, ?_⟩
      rcases q2 with q2 | ⟨y, hy, hu, hn⟩
      · exact .inl (List.mem_append_right _ (List.mem_map.mpr ⟨z, q2, rfl⟩))
      · exact .inr ⟨r.steps.length + y, by rw [nd]; exact List.mem_append_right _ (mem_upN.mpr hy), by rw [beside_uses2]; exact mem_upN.mpr hu, fun q => hn ((hm y).mp q)⟩
    unfold upN at this
    rwa [List.length_map] at this
end Rb
end
section
set_option Elab.async false
set_option linter.all false
set_option maxRecDepth 100000
set_option maxHeartbeats 4000000
namespace Rb
open PySem L2

/-! ### data in a heap -/
mutual
inductive Rep (G : Hp) : V → PyData → Prop
  | non : Rep G .non .none
  | bl (b : Bool) : Rep G (.bl b) (.bool b)
  | int (i : Int) : Rep G (.int i) (.int i)
  | str (x : Str) : Rep G (.str x) (.str x)
  | lst {a : Addr} {xs : List V} {ds : List PyData} : G a = some (.lst xs) → Reps G xs ds → Rep G (.ref a) (.list ds)
  | tup {a : Addr} {xs : List V} {ds : List PyData} : G a = some (.tup xs) → Reps G xs ds → Rep G (.ref a) (.tuple ds)
inductive Reps (G : Hp) : List V → List PyData → Prop
  | nil : Reps G [] []
  | cons {v : V} {vs : List V} {d : PyData} {ds : List PyData} : Rep G v d → Reps G vs ds → Reps G (v :: vs) (d :: ds)
end
mutual
theorem Rep.mono {G G' : Hp} (e : Same G G') : ∀ (d : PyData) (v : V), Rep G v d → Rep G' v d
  | .none, _, h => by cases h; exact .non
  | .bool b, _, h => by cases h; exact .bl b
  | .int i, _, h => by cases h; exact .int i
  | .str x, _, h => by cases h; exact .str x
  | .list ds, _, h => by cases h with | lst h1 h2 => exact .lst (e _ _ h1) (Reps.mono e ds _ h2)
  | .tuple ds, _, h => by cases h with | tup h1 h2 => exact .tup (e _ _ h1) (Reps.mono e ds _ h2)
  | .dict _, _, h => by cases h
theorem Reps.mono {G G' : Hp} (e : Same G G') : ∀ (ds : List PyData) (vs : List V), Reps G vs ds → Reps G' vs ds
  | [], _, h => by cases h; exact .nil
  | d :: ds, _, h => by cases h with | cons h1 h2 => exact .cons (Rep.mono e d _ h1) (Reps.mono e ds _ h2)
end
mutual
theorem Rep.dp {K : PySem.W.Frag} {G : Hp} : ∀ (d : PyData) (v : V), Rep G v d → Dp K G v d
  | .none, _, h => by cases h; exact .non
  | .bool b, _, h => by cases h; exact .bl b
  | .int i, _, h => by cases h; exact .int i
  | .str x, _, h => by cases h; exact .str x
  | .list ds, _, h => by cases h with | lst h1 h2 => exact .lst (.inl (.inl h1)) (Reps.dp ds _ h2)
  | .tuple ds, _, h => by cases h with | tup h1 h2 => exact .tup (.inl (.inl h1)) (Reps.dp ds _ h2)
  | .dict _, _, h => by cases h
theorem Reps.dp {K : PySem.W.Frag} {G : Hp} : ∀ (ds : List PyData) (vs : List V), Reps G vs ds → DpAll K G vs ds
  | [], _, h => by cases h; exact .nil
  | d :: ds, _, h => by cases h with | cons h1 h2 => exact .cons (Rep.dp d _ h1) (Reps.dp ds _ h2)
end
theorem Reps.length {G : Hp} : ∀ {ds : List PyData} {vs : List V}, Reps G vs ds → vs.length = ds.length
  | [], _, h => by cases h; rfl
  | d :: ds, _, h => by cases h with | cons _ h2 => simp [Reps.length h2]
theorem Reps.get {G : Hp} : ∀ {ds : List PyData} {vs : List V} {i : Nat} {d : PyData}, Reps G vs ds → ds[i]? = some d → ∃ v, vs[i]? = some v ∧ Rep G v d
  | [], _, i, d, h, e => by simp at e
  | d' :: ds, _, i, d, h, e => by
    cases h with
    | cons h1 h2 =>
      cases i with
      | zero => simp at e; subst e; exact ⟨_, rfl, h1⟩
      | succ i => simp at e; simpa using Reps.get h2 e
theorem Reps.get' {G : Hp} : ∀ {ds : List PyData} {vs : List V} {i : Nat} {v : V}, Reps G vs ds → vs[i]? = some v → ∃ d, ds[i]? = some d ∧ Rep G v d := fun {ds vs i v} h e => by
  have hl := h.length
  have hi : i < vs.length := (List.getElem?_eq_some_iff.mp e).1
  have hd : ds[i]? = some ds[i] := List.getElem?_eq_getElem (by omega)
  obtain ⟨v', e', r⟩ := h.get hd
  rw [e] at e'; cases e'
  exact ⟨_, hd, r⟩
theorem Reps.append {G : Hp} : ∀ {ds es : List PyData} {vs us : List V}, Reps G vs ds → Reps G us es → Reps G (vs ++ us) (ds ++ es)
  | [], _, _, _, h, k => by cases h; exact k
  | d :: ds, _, _, _, h, k => by cases h with | cons h1 h2 => exact .cons h1 (Reps.append h2 k)
theorem Reps.one {G : Hp} {v : V} {d : PyData} (h : Rep G v d) : Reps G [v] [d] := .cons h .nil
theorem Reps.set {G : Hp} {v : V} {d : PyData} (r : Rep G v d) : ∀ {ds : List PyData} {vs : List V} (i : Nat), Reps G vs ds → Reps G (vs.set i v) (ds.set i d)
  | [], _, _, h => by cases h; exact .nil
  | d' :: ds, _, 0, h => by cases h with | cons h1 h2 => exact .cons r h2
  | d' :: ds, _, i + 1, h => by cases h with | cons h1 h2 => exact .cons h1 (Reps.set r i h2)
theorem Reps.drop {G : Hp} : ∀ {ds : List PyData} {vs : List V} (n : Nat), Reps G vs ds → Reps G (vs.drop n) (ds.drop n)
  | _, _, 0, h => h
  | [], _, n + 1, h => by cases h; exact .nil
  | d :: ds, _, n + 1, h => by cases h with | cons h1 h2 => exact Reps.drop n h2
theorem Reps.take {G : Hp} : ∀ {ds : List PyData} {vs : List V} (n : Nat), Reps G vs ds → Reps G (vs.take n) (ds.take n)
  | _, _, 0, h => .nil
  | [], _, n + 1, h => by cases h; exact .nil
  | d :: ds, _, n + 1, h => by cases h with | cons h1 h2 => exact .cons h1 (Reps.take n h2)
theorem Reps.reverse {G : Hp} : ∀ {ds : List PyData} {vs : List V}, Reps G vs ds → Reps G vs.reverse ds.reverse
  | [], _, h => by cases h; exact .nil
  | d :: ds, _, h => by
    cases h with
    | cons h1 h2 =>
      rw [List.reverse_cons, List.reverse_cons]
      exact (Reps.reverse h2).append (.one h1)
theorem Reps.eraseIdx {G : Hp} : ∀ {ds : List PyData} {vs : List V} (n : Nat), Reps G vs ds → Reps G (vs.eraseIdx n) (ds.eraseIdx n)
  | [], _, n, h => by cases h; exact .nil
  | d :: ds, _, 0, h => by cases h with | cons h1 h2 => exact h2
  | d :: ds, _, n + 1, h => by cases h with | cons h1 h2 => exact .cons h1 (Reps.eraseIdx n h2)
theorem Reps.dropLast {G : Hp} {ds : List PyData} {vs : List V} (h : Reps G vs ds) : Reps G vs.dropLast ds.dropLast := by
  rw [List.dropLast_eq_take, List.dropLast_eq_take, h.length]
  exact h.take _
/-- lists of ints -/
def intsD (ns : List Int) : List PyData := ns.map .int
def natsD (ns : List Nat) : List PyData := ns.map fun n : Nat => PyData.int (n : Int)
theorem Reps.toInts {G : Hp} : ∀ {ns : List Int} {vs : List V}, Reps G vs (intsD ns) → vs = ns.map V.int
  | [], _, h => by cases h; rfl
  | n :: ns, _, h => by
    have h' : Reps G _ (.int n :: intsD ns) := h
    cases h' with
    | cons h1 h2 => cases h1; rw [Reps.toInts h2]; rfl
theorem Reps.of_ints {G : Hp} : ∀ (ns : List Int), Reps G (ns.map V.int) (intsD ns)
  | [] => .nil
  | n :: ns => .cons (.int n) (Reps.of_ints ns)
theorem Reps.bools {G : Hp} : ∀ {bs : List Bool} {vs : List V}, Reps G vs (bs.map .bool) → vs = bs.map V.bl
  | [], _, h => by cases h; rfl
  | b :: bs, _, h => by
    have h' : Reps G _ (.bool b :: bs.map .bool) := h
    cases h' with
    | cons h1 h2 => cases h1; rw [Reps.bools h2]; rfl

/-! ### assertions about a value -/
structure Asr where
  h : Hp → V → Prop
  mono : ∀ {G G' : Hp} {v : V}, Same G G' → h G v → h G' v
def dp (d : PyData) : Asr := ⟨fun G v => Rep G v d, fun e h => Rep.mono e _ _ h⟩
/-- this very value -/
def valA (u : V) : Asr := ⟨fun _ v => v = u, fun _ h => h⟩
def anyA : Asr := ⟨fun _ _ => True, fun _ h => h⟩
/-- dicts that stand still -/
def RepK (G : Hp) : List (Key × V) → List (Int × PyData) → Prop := Paired fun e k => e.1 = .inl k.1 ∧ Rep G e.2 k.2
def RepT (G : Hp) : List (List Key × V) → List (List Int × PyData) → Prop := Paired fun e k => e.1 = k.1.map Sum.inl ∧ Rep G e.2 k.2
theorem Paired.mp {α β : Type} {F F' : α → β → Prop} (f : ∀ a b, F a b → F' a b) : ∀ {l : List α} {m : List β}, Paired F l m → Paired F' l m
  | _, _, .nil => .nil
  | _, _, .cons h t => .cons (f _ _ h) (Paired.mp f t)
theorem RepK.mono {G G' : Hp} (e : Same G G') {es : List (Key × V)} {kvs : List (Int × PyData)} (h : RepK G es kvs) : RepK G' es kvs := Paired.mp (fun _ _ q => ⟨q.1, Rep.mono e _ _ q.2⟩) h
theorem RepT.mono {G G' : Hp} (e : Same G G') {es : List (List Key × V)} {kvs : List (List Int × PyData)} (h : RepT G es kvs) : RepT G' es kvs := Paired.mp (fun _ _ q => ⟨q.1, Rep.mono e _ _ q.2⟩) h
def dicK (kvs : List (Int × PyData)) : Asr := ⟨fun G v => ∃ a es, v = .ref a ∧ G a = some (.dK es) ∧ RepK G es kvs, fun e ⟨a, es, h1, h2, h3⟩ => ⟨a, es, h1, e _ _ h2, h3.mono e⟩⟩
def dicT (kvs : List (List Int × PyData)) : Asr := ⟨fun G v => ∃ a es, v = .ref a ∧ G a = some (.dT es) ∧ RepT G es kvs, fun e ⟨a, es, h1, h2, h3⟩ => ⟨a, es, h1, e _ _ h2, h3.mono e⟩⟩

/-! ### what may change: the kind of a def (pure; with a deck) -/
structure Kx where
  A0 : List Addr
  Mu : List Addr
  J : Hp → Prop
  sub : ∀ x ∈ Mu, x ∈ A0
  alive : ∀ {H : Hp}, J H → ∀ x ∈ A0, ∃ vs, H x = some (.lst vs)
  loc : ∀ {H H' : Hp}, (∀ x ∈ A0, H' x = H x) → J H → J H'
def pu : Kx where
  A0 := []
  Mu := []
  J := fun _ => True
  sub := fun _ h => nomatch h
  alive := fun _ _ h => nomatch h
  loc := fun _ _ => trivial

/-- the heap and the ghost heap of what stands still -/
structure Wf (c : Kx) (H R : Hp) : Prop where
  sub : Same R H
  av : ∀ x ∈ c.A0, R x = none
  j : c.J H
/-- what may be new in the ghost heap: a new thing, or a tuple -/
def Fre (H : Hp) (x : Addr) (o : HO) : Prop := H x = none ∨ ∃ xs, o = HO.tup xs
structure Grow (c : Kx) (H R H' R' : Hp) : Prop where
  gr : ∀ x o, x ∉ c.Mu → H x = some o → H' x = some o
  rr : Same R R'
  fr : ∀ x o, R' x = some o → R x = some o ∨ Fre H x o
  wf : Wf c H' R'
theorem Grow.refl {c : Kx} {H R : Hp} (w : Wf c H R) : Grow c H R H R := ⟨fun _ _ _ h => h, Same.refl R, fun _ _ h => .inl h, w⟩
theorem Grow.trans' {c : Kx} {H R H1 R1 H2 R2 : Hp} (a : Grow c H R H1 R1) (b : Grow c H1 R1 H2 R2) : Grow c H R H2 R2 where
  gr := fun x o hx h => b.gr x o hx (a.gr x o hx h)
  rr := a.rr.trans b.rr
  fr := fun x o h => by
    rcases b.fr x o h with h1 | h1 | h1
    · exact a.fr x o h1
    · cases q : H x with
      | none => exact .inr (.inl q)
      | some u =>
        by_cases hx : x ∈ c.Mu
        · obtain ⟨u', hu⟩ := c.alive a.wf.j x (c.sub x hx)
          rw [h1] at hu; cases hu
        · rw [a.gr x u hx q] at h1; cases h1
    · exact .inr (.inr h1)
  wf := b.wf
theorem Grow.trans {c : Kx} {H R H1 R1 H2 R2 : Hp} (a : Grow c H R H1 R1) (w : Wf c H R) (b : Grow c H1 R1 H2 R2) : Grow c H R H2 R2 := a.trans' b
/-- all that stood stands, in the heap; the ghost heap grows by new things -/
theorem Grow.same {c : Kx} {H R H' R' : Hp} (w : Wf c H R) (g : Same H H') (rr : Same R R') (rs : Same R' H') (fr : ∀ x o, R' x = some o → R x = some o ∨ Fre H x o) : Grow c H R H' R' where
  gr := fun x o _ h => g x o h
  rr := rr
  fr := fr
  wf := by
    refine ⟨rs, fun x hx => ?_, c.loc (fun x hx => ?_) w.j⟩
    · obtain ⟨o, ho⟩ := c.alive w.j x hx
      cases q : R' x with
      | none => rfl
      | some u =>
        rcases fr x u q with h | h | ⟨xs, h⟩
        · rw [w.av x hx] at h; cases h
        · rw [ho] at h; cases h
        · have h1 := rs x u q
          rw [g x _ ho, h] at h1
          cases h1
    · obtain ⟨o, ho⟩ := c.alive w.j x hx
      rw [ho, g x _ ho]
theorem same_new {H : Hp} {p : Addr} {o : HO} (h : H p = none) : Same H (upd H p o) := fun b u q => by rw [upd_ne (ne_of_none q h)]; exact q
theorem Wf.none {c : Kx} {H R : Hp} (w : Wf c H R) {p : Addr} (h : H p = none) : R p = none := w.sub.free h
/-- a new object, frozen at once -/
theorem Grow.new {c : Kx} {H R : Hp} (w : Wf c H R) {p : Addr} {o : HO} (h : H p = none) : Grow c H R (upd H p o) (upd R p o) := by
  refine .same w (same_new h) (same_new (w.none h)) (fun x u q => ?_) (fun x u q => ?_)
  · by_cases e : x = p
    · subst e; rw [upd_same] at q ⊢; exact q
    · rw [upd_ne e] at q ⊢; exact w.sub x u q
  · by_cases e : x = p
    · subst e; exact .inr (.inl h)
    · rw [upd_ne e] at q; exact .inl q
/-- a new object, not frozen -/
theorem Grow.lay {c : Kx} {H R : Hp} (w : Wf c H R) {p : Addr} {o : HO} (h : H p = none) : Grow c H R (upd H p o) R :=
  .same w (same_new h) (Same.refl R) (w.sub.trans (same_new h)) fun _ _ q => .inl q
/-- a callee's pure growth is growth here -/
theorem Grow.of_pure {c : Kx} {H R H' R' : Hp} (w : Wf c H R) (g : Grow pu H R H' R') : Grow c H R H' R' :=
  .same w (fun x o h => g.gr x o (List.not_mem_nil) h) g.rr g.wf.sub g.fr

/-! ### what is being changed: own lists and dicts -/
inductive Mc where
  | lst (ds : List PyData)
  | raw (vs : List V)
  | dK (kvs : List (Int × PyData))
  | dKr (es : List (Key × V))
  | dT (kvs : List (List Int × PyData))
def Holds (R H : Hp) (p : Addr) : Mc → Prop
  | .lst ds => ∃ vs, H p = some (.lst vs) ∧ Reps R vs ds
  | .raw vs => H p = some (.lst vs)
  | .dK kvs => ∃ es, H p = some (.dK es) ∧ RepK R es kvs
  | .dKr es => H p = some (.dK es)
  | .dT kvs => ∃ es, H p = some (.dT es) ∧ RepT R es kvs
theorem Holds.alive {R H : Hp} {p : Addr} {m : Mc} (h : Holds R H p m) : ∃ o, H p = some o := by
  cases m with
  | lst ds => obtain ⟨vs, h, _⟩ := h; exact ⟨_, h⟩
  | raw vs => exact ⟨_, h⟩
  | dK kvs => obtain ⟨vs, h, _⟩ := h; exact ⟨_, h⟩
  | dKr es => exact ⟨_, h⟩
  | dT kvs => obtain ⟨vs, h, _⟩ := h; exact ⟨_, h⟩
theorem Holds.mono {R R' H H' : Hp} {p : Addr} {m : Mc} (h : Holds R H p m) (e : Same R R') (k : ∀ o, H p = some o → H' p = some o) : Holds R' H' p m := by
  cases m with
  | lst ds => obtain ⟨vs, h, r⟩ := h; exact ⟨vs, k _ h, r.mono e⟩
  | raw vs => exact k _ h
  | dK kvs => obtain ⟨vs, h, r⟩ := h; exact ⟨vs, k _ h, r.mono e⟩
  | dKr es => exact k _ h
  | dT kvs => obtain ⟨vs, h, r⟩ := h; exact ⟨vs, k _ h, r.mono e⟩
abbrev MS := List (Addr × Mc)
structure Muts (c : Kx) (Ms : MS) (H R : Hp) : Prop where
  nd : (Ms.map Prod.fst).Nodup
  off : ∀ e ∈ Ms, e.1 ∉ c.A0
  hid : ∀ e ∈ Ms, R e.1 = none
  ok : ∀ e ∈ Ms, Holds R H e.1 e.2
theorem Holds.notup {R H : Hp} {p : Addr} {m : Mc} {xs : List V} (h : Holds R H p m) (e : H p = some (.tup xs)) : False := by
  cases m with
  | lst ds => obtain ⟨vs, h, _⟩ := h; rw [e] at h; cases h
  | raw vs => rw [show H p = some (.lst vs) from h] at e; cases e
  | dK kvs => obtain ⟨vs, h, _⟩ := h; rw [e] at h; cases h
  | dKr es => rw [show H p = some (.dK es) from h] at e; cases e
  | dT kvs => obtain ⟨vs, h, _⟩ := h; rw [e] at h; cases h
theorem Grow.keepNone {c : Kx} {H R H' R' : Hp} {p : Addr} {vs : List V} (g : Grow c H R H' R') (hn : R p = none) (hd : H p = some (.lst vs)) (hm : p ∉ c.Mu) : R' p = none := by
  cases z : R' p with
  | none => rfl
  | some u =>
    rcases g.fr p u z with h | h | ⟨xs, h⟩
    · rw [hn] at h; cases h
    · rw [hd] at h; cases h
    · have h1 := g.wf.sub p u z
      rw [g.gr p _ hm hd, h] at h1
      cases h1
theorem Muts.grow {c : Kx} {Ms : MS} {H R H' R' : Hp} (m : Muts c Ms H R) (g : Grow c H R H' R') : Muts c Ms H' R' where
  nd := m.nd
  off := m.off
  hid := fun e he => by
    cases q : R' e.1 with
    | none => rfl
    | some o =>
      rcases g.fr _ _ q with h | h | ⟨xs, h⟩
      · rw [m.hid e he] at h; cases h
      · obtain ⟨o', ho⟩ := (m.ok e he).alive
        rw [h] at ho; cases ho
      · have hh : Holds R' H' e.1 e.2 := (m.ok e he).mono g.rr fun o ho => g.gr _ _ (fun z => m.off e he (c.sub _ z)) ho
        exact (hh.notup (by rw [← h]; exact g.wf.sub _ _ q)).elim
  ok := fun e he => (m.ok e he).mono g.rr fun o ho => g.gr _ _ (fun z => m.off e he (c.sub _ z)) ho

/-! ### slots -/
abbrev AS := List (Option Asr)
structure Slots (As : AS) (σ : L2.St) (R : Hp) : Prop where
  len : σ.length = As.length
  at_ : ∀ (i : Nat) (A : Asr), As[i]? = some (some A) → ∃ v, σ[i]? = some (some v) ∧ A.h R v
theorem Slots.mono {As : AS} {σ : L2.St} {R R' : Hp} (s : Slots As σ R) (e : Same R R') : Slots As σ R' :=
  ⟨s.len, fun i A h => let ⟨v, h1, h2⟩ := s.at_ i A h; ⟨v, h1, A.mono e h2⟩⟩
theorem Slots.set {As : AS} {σ : L2.St} {R : Hp} (s : Slots As σ R) {A : Asr} {v : V} (i : Nat) (h : A.h R v) : Slots (As.set i (some A)) (σ.set i (some v)) R where
  len := by rw [List.length_set, List.length_set, s.len]
  at_ := fun j B hj => by
    by_cases e : i = j
    · subst e
      rw [List.getElem?_set] at hj
      split at hj
      · split at hj
        · rename_i hl
          have hb : A = B := by injection hj with hj; injection hj
          subst hb
          exact ⟨v, by rw [List.getElem?_set_self (by rw [s.len]; exact hl)], h⟩
        · cases hj
      · exact absurd rfl (by assumption)
    · rw [List.getElem?_set_ne e] at hj
      obtain ⟨u, h1, h2⟩ := s.at_ j B hj
      exact ⟨u, by rw [List.getElem?_set_ne e]; exact h1, h2⟩
/-- less is known -/
def LeA (A B : Option Asr) : Prop := match B with
  | none => True
  | some b => ∃ a, A = some a ∧ ∀ R v, a.h R v → b.h R v
theorem LeA.refl : ∀ A, LeA A A
  | none => trivial
  | some a => ⟨a, rfl, fun _ _ h => h⟩
inductive LeAs : AS → AS → Prop
  | nil : LeAs [] []
  | cons {A B : Option Asr} {As Bs : AS} : LeA A B → LeAs As Bs → LeAs (A :: As) (B :: Bs)
theorem LeAs.get : ∀ {As Bs : AS} {i : Nat} {b : Asr}, LeAs As Bs → Bs[i]? = some (some b) → ∃ a, As[i]? = some (some a) ∧ ∀ R v, a.h R v → b.h R v
  | _, _, i, b, .nil, h => by simp at h
  | _, _, 0, b, .cons l _, h => by
    have e : _ = some b := Option.some.inj h
    subst e
    obtain ⟨a, rfl, h2⟩ := l
    exact ⟨a, rfl, h2⟩
  | _, _, i + 1, b, .cons _ l, h => by
    have h' := LeAs.get (i := i) (b := b) l (by simpa using h)
    simpa using h'
theorem LeAs.len : ∀ {As Bs : AS}, LeAs As Bs → As.length = Bs.length
  | _, _, .nil => rfl
  | _, _, .cons _ l => by simp [LeAs.len l]
theorem LeAs.refl : ∀ As, LeAs As As
  | [] => .nil
  | A :: As => .cons (LeA.refl A) (LeAs.refl As)
theorem Slots.le {As Bs : AS} {σ : L2.St} {R : Hp} (s : Slots As σ R) (l : LeAs As Bs) : Slots Bs σ R :=
  ⟨s.len.trans l.len, fun i b h => let ⟨a, h1, h2⟩ := l.get h; let ⟨v, h3, h4⟩ := s.at_ i a h1; ⟨v, h3, h2 R v h4⟩⟩
def wipeA (As : AS) : List Nat → AS
  | [] => As
  | v :: vs => (wipeA As vs).set v none
theorem Slots.unset {As : AS} {σ : L2.St} {R : Hp} (s : Slots As σ R) (i : Nat) : Slots (As.set i none) (σ.set i none) R where
  len := by rw [List.length_set, List.length_set, s.len]
  at_ := fun j B hj => by
    by_cases e : i = j
    · subst e
      rw [List.getElem?_set] at hj
      split at hj
      · split at hj
        · cases hj
        · cases hj
      · exact absurd rfl (by assumption)
    · rw [List.getElem?_set_ne e] at hj
      obtain ⟨u, h1, h2⟩ := s.at_ j B hj
      exact ⟨u, by rw [List.getElem?_set_ne e]; exact h1, h2⟩
theorem Slots.wipe {As : AS} {σ : L2.St} {R : Hp} (s : Slots As σ R) : ∀ vs, Slots (wipeA As vs) (L2.wipe σ vs) R
  | [] => s
  | v :: vs => (Slots.wipe s vs).unset v

/-! ### the judgement of an expression -/
structure Sit (c : Kx) (Ms : MS) (As : AS) (σ : L2.St) (H R : Hp) : Prop where
  wf : Wf c H R
  mu : Muts c Ms H R
  sl : Slots As σ R
theorem Sit.grow {c : Kx} {Ms : MS} {As : AS} {σ : L2.St} {H R H' R' : Hp} (s : Sit c Ms As σ H R) (g : Grow c H R H' R') : Sit c Ms As σ H' R' := ⟨g.wf, s.mu.grow g, s.sl.mono g.rr⟩

def Ev (c : Kx) (Ms : MS) (As : AS) (te : TE) (A : Asr) : Prop := ∀ σ H R, Sit c Ms As σ H R → ∀ Q : VK, (∀ v H' R', Grow c H R H' R' → A.h R' v → Q v H') → te σ H Q
def EvT (c : Kx) (Ms : MS) (As : AS) (tt : TT) (b : Bool) : Prop := ∀ σ H R, Sit c Ms As σ H R → ∀ Q : Bool → Hp → Prop, (∀ H' R', Grow c H R H' R' → Q b H') → tt σ H Q
/-- arguments -/
def HoldsAll (R : Hp) : List V → List Asr → Prop := Paired fun v A => A.h R v
theorem HoldsAll.mono {R R' : Hp} (e : Same R R') {vs : List V} {as : List Asr} (h : HoldsAll R vs as) : HoldsAll R' vs as := Paired.mp (fun _ A q => A.mono e q) h
def EvA (c : Kx) (Ms : MS) (As : AS) (ta : TA) (as : List Asr) : Prop := ∀ σ H R, Sit c Ms As σ H R → ∀ Q : List V → Hp → Prop, (∀ vs H' R', Grow c H R H' R' → HoldsAll R' vs as → Q vs H') → ta σ H Q
/-- a new list, not frozen -/
def EvL (c : Kx) (Ms : MS) (As : AS) (te : TE) (ds : List PyData) : Prop := ∀ σ H R, Sit c Ms As σ H R → ∀ Q : VK, (∀ p vs H' R', Grow c H R H' R' → H p = none → R' p = none → H' p = some (.lst vs) → Reps R' vs ds → Q (.ref p) H') → te σ H Q

section
variable {c : Kx} {Ms : MS} {As : AS} {ta tb te : TE} {A B : Asr} {K : PySem.W.Frag} {d e : PyData} {t u : TT}
theorem Ev.le (h : Ev c Ms As te A) (k : ∀ R v, A.h R v → B.h R v) : Ev c Ms As te B := fun σ H R s Q q => h σ H R s Q fun v H' R' g a => q v H' R' g (k _ _ a)
theorem Ev.to (h : Ev c Ms As te (dp d)) (k : d = e) : Ev c Ms As te (dp e) := k ▸ h
theorem EvT.to {a b : Bool} (h : EvT c Ms As t a) (k : a = b) : EvT c Ms As t b := k ▸ h
theorem EvL.to {a b : List PyData} (h : EvL c Ms As te a) (k : a = b) : EvL c Ms As te b := k ▸ h
/-- freeze it -/
theorem Grow.freeze {H R H' R' : Hp} {p : Addr} {o : HO} (w : Wf c H R) (g : Grow c H R H' R') (h0 : H p = none) (ho : H' p = some o) (hn : R' p = none) : Grow c H R H' (upd R' p o) := by
  have pA : p ∉ c.A0 := fun z => by obtain ⟨u, hu⟩ := c.alive w.j p z; rw [h0] at hu; cases hu
  refine ⟨g.gr, g.rr.trans (same_new hn), fun x u q => ?_, ⟨fun x u q => ?_, fun x hx => ?_, g.wf.j⟩⟩
  · by_cases e : x = p
    · subst e; exact .inr (.inl h0)
    · rw [upd_ne e] at q; exact g.fr x u q
  · by_cases e : x = p
    · subst e; rw [upd_same] at q; rw [ho]; exact q
    · rw [upd_ne e] at q; exact g.wf.sub x u q
  · rw [upd_ne (fun z : x = p => pA (by rw [← z]; exact hx))]; exact g.wf.av x hx
theorem EvL.ev {ds : List PyData} (h : EvL c Ms As te ds) : Ev c Ms As te (dp (.list ds)) := fun σ H R s Q q =>
  h σ H R s Q fun p vs H' R' g h0 hr hp r => q _ H' (upd R' p (.lst vs)) (g.freeze s.wf h0 hp hr) (.lst upd_same (r.mono (same_new hr)))
theorem ev_var {i : Nat} (h : As[i]? = some (some A)) : Ev c Ms As (tVar i) A := fun σ H R s Q q =>
  let ⟨v, h1, h2⟩ := s.sl.at_ i A h
  ⟨v, h1, q v H R (.refl s.wf) h2⟩
theorem ev_val {v : V} {d : PyData} (h : ∀ R, Rep R v d) : Ev c Ms As (tC v) (dp d) := fun σ H R s Q q => q v H R (.refl s.wf) (h R)
theorem ev_int {i : Int} : Ev c Ms As (tC (.int i)) (dp (.int i)) := ev_val fun _ => .int i
theorem ev_str {x : Str} : Ev c Ms As (tC (.str x)) (dp (.str x)) := ev_val fun _ => .str x
theorem ev_bl {b : Bool} : Ev c Ms As (tC (.bl b)) (dp (.bool b)) := ev_val fun _ => .bl b
theorem ev_non : Ev c Ms As (tC .non) (dp .none) := ev_val fun _ => .non
theorem ev_gl {v : V} : Ev c Ms As (tC v) (valA v) := fun σ H R s Q q => q v H R (.refl s.wf) rfl
/-- one operand, then the rest -/
theorem Ev.bind {σ : L2.St} {H R : Hp} (h : Ev c Ms As ta A) (s : Sit c Ms As σ H R) {Q : VK} (k : ∀ v H' R', Grow c H R H' R' → Sit c Ms As σ H' R' → A.h R' v → Q v H') : ta σ H Q :=
  h σ H R s Q fun v H' R' g a => k v H' R' g (s.grow g) a
theorem ev_op {r : R2} {C : Asr} (ha : Ev c Ms As ta A) (hb : Ev c Ms As tb B)
    (hr : ∀ H R x y, Wf c H R → Muts c Ms H R → A.h R x → B.h R y → ∀ Q : VK, (∀ v H' R', Grow c H R H' R' → C.h R' v → Q v H') → r x y H Q) : Ev c Ms As (tOp r ta tb) C := fun σ H R s Q q =>
  ha.bind s fun x H1 R1 g1 s1 a => hb.bind s1 fun y H2 R2 g2 s2 b =>
    hr H2 R2 x y s2.wf s2.mu (A.mono g2.rr a) b Q fun v H3 R3 g3 z => q v H3 R3 ((g1.trans s.wf g2).trans s.wf g3) z
/-- .. whose answer leaves the heap as it is -/
theorem ev_op0 {r : R2} {d : PyData} (ha : Ev c Ms As ta A) (hb : Ev c Ms As tb B)
    (hr : ∀ H R x y, Wf c H R → Muts c Ms H R → A.h R x → B.h R y → ∀ Q : VK, (∀ v, Rep R v d → Q v H) → r x y H Q) : Ev c Ms As (tOp r ta tb) (dp d) :=
  ev_op ha hb fun H R x y w m a b Q q => hr H R x y w m a b Q fun v z => q v H R (.refl w) z
theorem ev_I0 {g : Int → Int → V} {i j : Int} {d : PyData} (ha : Ev c Ms As ta (dp (.int i))) (hb : Ev c Ms As tb (dp (.int j))) (hg : ∀ R, Rep R (g i j) d) : Ev c Ms As (tOp (rI0 g) ta tb) (dp d) :=
  ev_op0 ha hb fun H R x y _ _ a b Q q => by cases a; cases b; exact ⟨i, j, rfl, rfl, q _ (hg R)⟩
theorem ev_I {C : Int → Int → Prop} {g : Int → Int → V} {i j : Int} {d : PyData} (ha : Ev c Ms As ta (dp (.int i))) (hb : Ev c Ms As tb (dp (.int j))) (hc : C i j) (hg : ∀ R, Rep R (g i j) d) : Ev c Ms As (tOp (rI C g) ta tb) (dp d) :=
  ev_op0 ha hb fun H R x y _ _ a b Q q => by cases a; cases b; exact ⟨i, j, rfl, rfl, hc, q _ (hg R)⟩
theorem ev_add {i j : Int} (ha : Ev c Ms As ta (dp (.int i))) (hb : Ev c Ms As tb (dp (.int j))) : Ev c Ms As (tOp (rI0 fun i j => .int (i + j)) ta tb) (dp (.int (i + j))) := ev_I0 ha hb fun _ => .int _
theorem ev_sub {i j : Int} (ha : Ev c Ms As ta (dp (.int i))) (hb : Ev c Ms As tb (dp (.int j))) : Ev c Ms As (tOp (rI0 fun i j => .int (i - j)) ta tb) (dp (.int (i - j))) := ev_I0 ha hb fun _ => .int _
theorem ev_lt {i j : Int} (ha : Ev c Ms As ta (dp (.int i))) (hb : Ev c Ms As tb (dp (.int j))) : Ev c Ms As (tOp (rI0 fun i j => .bl (decide (i < j))) ta tb) (dp (.bool (decide (i < j)))) := ev_I0 ha hb fun _ => .bl _
theorem ev_le {i j : Int} (ha : Ev c Ms As ta (dp (.int i))) (hb : Ev c Ms As tb (dp (.int j))) : Ev c Ms As (tOp (rI0 fun i j => .bl (decide (i ≤ j))) ta tb) (dp (.bool (decide (i ≤ j)))) := ev_I0 ha hb fun _ => .bl _
theorem ev_gt {i j : Int} (ha : Ev c Ms As ta (dp (.int i))) (hb : Ev c Ms As tb (dp (.int j))) : Ev c Ms As (tOp (rI0 fun i j => .bl (decide (i > j))) ta tb) (dp (.bool (decide (i > j)))) := ev_I0 ha hb fun _ => .bl _
theorem ev_ge {i j : Int} (ha : Ev c Ms As ta (dp (.int i))) (hb : Ev c Ms As tb (dp (.int j))) : Ev c Ms As (tOp (rI0 fun i j => .bl (decide (i ≥ j))) ta tb) (dp (.bool (decide (i ≥ j)))) := ev_I0 ha hb fun _ => .bl _
theorem ev_mul {C : Int → Int → Prop} {i j : Int} (ha : Ev c Ms As ta (dp (.int i))) (hb : Ev c Ms As tb (dp (.int j))) (hc : C i j) : Ev c Ms As (tOp (rI C fun i j => .int (i * j)) ta tb) (dp (.int (i * j))) := ev_I ha hb hc fun _ => .int _
theorem ev_div {C : Int → Int → Prop} {i j : Int} (ha : Ev c Ms As ta (dp (.int i))) (hb : Ev c Ms As tb (dp (.int j))) (hc : C i j) : Ev c Ms As (tOp (rI C fun i j => .int (i / j)) ta tb) (dp (.int (i / j))) := ev_I ha hb hc fun _ => .int _
theorem ev_mod {C : Int → Int → Prop} {i j : Int} (ha : Ev c Ms As ta (dp (.int i))) (hb : Ev c Ms As tb (dp (.int j))) (hc : C i j) : Ev c Ms As (tOp (rI C fun i j => .int (i % j)) ta tb) (dp (.int (i % j))) := ev_I ha hb hc fun _ => .int _
theorem ev_pow {C : Int → Int → Prop} {i j : Int} (ha : Ev c Ms As ta (dp (.int i))) (hb : Ev c Ms As tb (dp (.int j))) (hc : C i j) : Ev c Ms As (tOp (rI C fun i j => .int (i ^ j.toNat)) ta tb) (dp (.int (i ^ j.toNat))) := ev_I ha hb hc fun _ => .int _
theorem ev_un {r : V → Hp → VK → Prop} {d : PyData} (ha : Ev c Ms As ta A) (hr : ∀ H R x, Wf c H R → A.h R x → ∀ Q : VK, (∀ v, Rep R v d → Q v H) → r x H Q) : Ev c Ms As (tUn r ta) (dp d) := fun σ H R s Q q =>
  ha.bind s fun x H1 R1 g1 s1 a => hr H1 R1 x s1.wf a Q fun v z => q v H1 R1 g1 z
theorem ev_neg {i : Int} (ha : Ev c Ms As ta (dp (.int i))) : Ev c Ms As (tUn (rU fun i => .int (-i)) ta) (dp (.int (-i))) := ev_un ha fun H R x _ a Q q => by cases a; exact ⟨i, rfl, q _ (.int _)⟩
/-- == and != of scalars -/
def sca : PyData → Option V
  | .none => some .non
  | .bool b => some (.bl b)
  | .int i => some (.int i)
  | .str x => some (.str x)
  | _ => Option.none
theorem Rep.sca {R : Hp} {v w : V} {d : PyData} (h : Rep R v d) (e : Rb.sca d = some w) : v = w := by cases h <;> cases e <;> rfl
theorem ev_eqS {x y : V} {d e : PyData} (ha : Ev c Ms As ta (dp d)) (hb : Ev c Ms As tb (dp e)) (hx : sca d = some x) (hy : sca e = some y) (hs : scal x y = true) : Ev c Ms As (tOp rEq ta tb) (dp (.bool (decide (x = y)))) :=
  ev_op0 ha hb fun H R x' y' _ _ a b Q q => by
    rw [Rep.sca a hx, Rep.sca b hy]
    exact ⟨hs, q _ (.bl _)⟩
theorem ev_neS {x y : V} {d e : PyData} (ha : Ev c Ms As ta (dp d)) (hb : Ev c Ms As tb (dp e)) (hx : sca d = some x) (hy : sca e = some y) (hs : scal x y = true) : Ev c Ms As (tOp rNe ta tb) (dp (.bool (!decide (x = y)))) :=
  ev_op0 ha hb fun H R x' y' _ _ a b Q q => by
    rw [Rep.sca a hx, Rep.sca b hy]
    exact ⟨hs, q _ (.bl _)⟩
theorem ev_eqi {i j : Int} (ha : Ev c Ms As ta (dp (.int i))) (hb : Ev c Ms As tb (dp (.int j))) : Ev c Ms As (tOp rEq ta tb) (dp (.bool (decide (i = j)))) :=
  (ev_eqS ha hb rfl rfl rfl).to (congrArg PyData.bool (decide_eq_decide.mpr ⟨fun h => by injection h, fun h => by rw [h]⟩))
theorem ev_nei {i j : Int} (ha : Ev c Ms As ta (dp (.int i))) (hb : Ev c Ms As tb (dp (.int j))) : Ev c Ms As (tOp rNe ta tb) (dp (.bool (!decide (i = j)))) :=
  (ev_neS ha hb rfl rfl rfl).to (congrArg (fun b : Bool => PyData.bool (!b)) (decide_eq_decide.mpr ⟨fun h => by injection h, fun h => by rw [h]⟩))
theorem ev_eqs {x y : Str} (ha : Ev c Ms As ta (dp (.str x))) (hb : Ev c Ms As tb (dp (.str y))) : Ev c Ms As (tOp rEq ta tb) (dp (.bool (decide (x = y)))) :=
  (ev_eqS ha hb rfl rfl rfl).to (congrArg PyData.bool (decide_eq_decide.mpr ⟨fun h => by injection h, fun h => by rw [h]⟩))
theorem ev_isN {d : PyData} {x : V} (ha : Ev c Ms As ta (dp d)) (hx : sca d = some x) : Ev c Ms As (tOp (fun x y H Q => y = .non ∧ Q (.bl (decide (x = .non))) H) ta (tC .non)) (dp (.bool (decide (x = .non)))) :=
  ev_op0 ha ev_non fun H R x' y' _ _ a b Q q => by rw [Rep.sca a hx]; cases b; exact ⟨rfl, q _ (.bl _)⟩
theorem ev_isNr {ds : List PyData} (ha : Ev c Ms As ta (dp (.list ds))) : Ev c Ms As (tOp (fun x y H Q => y = .non ∧ Q (.bl (decide (x = .non))) H) ta (tC .non)) (dp (.bool false)) :=
  ev_op0 ha ev_non fun H R x' y' _ _ a b Q q => by cases a; cases b; exact ⟨rfl, q _ (.bl _)⟩
theorem ev_notN {d : PyData} {x : V} (ha : Ev c Ms As ta (dp d)) (hx : sca d = some x) : Ev c Ms As (tOp (fun x y H Q => y = .non ∧ Q (.bl (!decide (x = .non))) H) ta (tC .non)) (dp (.bool (!decide (x = .non)))) :=
  ev_op0 ha ev_non fun H R x' y' _ _ a b Q q => by rw [Rep.sca a hx]; cases b; exact ⟨rfl, q _ (.bl _)⟩
/-- == and != of data -/
theorem ev_eqD (ha : Ev c Ms As ta (dp d)) (hb : Ev c Ms As tb (dp e)) (hd : SeqAt.shaped d = true) (he : SeqAt.shaped e = true) : Ev c Ms As (tOp (rEqD K) ta tb) (dp (.bool (PyData.eqv d e))) :=
  ev_op0 ha hb fun H R x y w _ a b Q q => ⟨d, e, (Rep.mono w.sub _ _ a).dp, (Rep.mono w.sub _ _ b).dp, hd, he, q _ (.bl _)⟩
theorem ev_neD (ha : Ev c Ms As ta (dp d)) (hb : Ev c Ms As tb (dp e)) (hd : SeqAt.shaped d = true) (he : SeqAt.shaped e = true) : Ev c Ms As (tOp (rNeD K) ta tb) (dp (.bool (!PyData.eqv d e))) :=
  ev_op0 ha hb fun H R x y w _ a b Q q => ⟨d, e, (Rep.mono w.sub _ _ a).dp, (Rep.mono w.sub _ _ b).dp, hd, he, q _ (.bl _)⟩

/-! ### lists: frozen, or one's own -/
def lsA (Ms : MS) (ds : List PyData) : Asr := ⟨fun G v => Rep G v (.list ds) ∨ ∃ a, v = .ref a ∧ (a, Mc.lst ds) ∈ Ms, fun e h => h.imp (fun h => Rep.mono e _ _ h) fun h => h⟩
theorem Ev.ls {ds : List PyData} (h : Ev c Ms As te (dp (.list ds))) : Ev c Ms As te (lsA [] ds) := h.le fun _ _ a => .inl a
theorem Ev.own {ds : List PyData} {p : Addr} {Ms' : MS} (h : Ev c Ms As te (valA (.ref p))) (m : (p, Mc.lst ds) ∈ Ms') : Ev c Ms As te (lsA Ms' ds) := h.le fun _ _ a => .inr ⟨p, a, m⟩
theorem lsA.at_ {Ms' : MS} {ds : List PyData} {H R : Hp} {v : V} (h : (lsA Ms' ds).h R v) (hs : Ms' ⊆ Ms) (w : Wf c H R) (m : Muts c Ms H R) : ∃ a vs, v = .ref a ∧ H a = some (.lst vs) ∧ Reps R vs ds := by
  rcases h with h | ⟨a, rfl, ha⟩
  · cases h with | lst h1 h2 => exact ⟨_, _, rfl, w.sub _ _ h1, h2⟩
  · obtain ⟨vs, h1, h2⟩ := m.ok _ (hs ha)
    exact ⟨a, vs, rfl, h1, h2⟩
theorem ev_ixL {Ms' : MS} {ds : List PyData} {i : Int} (ha : Ev c Ms As ta (lsA Ms' ds)) (hb : Ev c Ms As tb (dp (.int i))) (hi : atI ds i = some d) (hs : Ms' ⊆ Ms := by first | exact List.nil_subset _ | exact List.Subset.refl _ | simp) : Ev c Ms As (tOp (rIxL K) ta tb) (dp d) :=
  ev_op0 ha hb fun H R x y w m a b Q q => by
    cases b
    obtain ⟨p, vs, rfl, hp, r⟩ := lsA.at_ a hs w m
    obtain ⟨j, hj, hd, _⟩ := atI_get hi
    obtain ⟨v, hv, rv⟩ := r.get hd
    refine ⟨p, vs, i, v, rfl, rfl, .inl (.inl hp), ?_, q v rv⟩
    have hl := r.length
    unfold atI at hi ⊢
    rw [hl]
    cases hx : ixN ds.length i with
    | none => rw [hx] at hi; cases hi
    | some k =>
      rw [hx] at hi
      obtain ⟨v', hv', rv'⟩ := r.get (show ds[k]? = some d from hi)
      have hk : k = j ∨ True := .inr trivial
      show vs[k]? = some v
      have : ds[k]? = some d := hi
      have e1 := atI_get (show atI ds i = some d by unfold atI; rw [hx]; exact hi)
      rw [hv']
      have hkj : k = j := by
        unfold ixN at hx
        unfold seqIndex? at hj
        split at hx
        · split at hx
          · cases hx
            simp at hj
            omega
          · cases hx
        · split at hx
          · cases hx
            simp at hj
            omega
          · cases hx
      subst hkj
      rw [hv] at hv'
      exact hv'.symm
end
end Rb
end
section
set_option Elab.async false
set_option linter.all false
set_option maxRecDepth 100000
set_option maxHeartbeats 4000000
namespace Rb
open PySem L2

theorem ixN_lt {n : Nat} {i : Int} {k : Nat} (h : ixN n i = some k) : k < n := by
  unfold ixN at h
  split at h
  · split at h
    · cases h; omega
    · cases h
  · split at h
    · cases h; omega
    · cases h
theorem Reps.atI {R : Hp} {vs : List V} {ds : List PyData} {i : Int} {d : PyData} (r : Reps R vs ds) (h : L2.atI ds i = some d) : ∃ v, L2.atI vs i = some v ∧ Rep R v d := by
  unfold L2.atI at h ⊢
  rw [r.length]
  cases hx : ixN ds.length i with
  | none => rw [hx] at h; cases h
  | some k =>
    rw [hx] at h
    exact r.get (show ds[k]? = some d from h)

section
variable {c : Kx} {Ms : MS} {As : AS} {ta tb te : TE} {A B : Asr} {K : PySem.W.Frag} {d e : PyData} {t u : TT}
/-! ### sequences: tuples, lists -/
def sqA (Ms : MS) (ds : List PyData) : Asr := ⟨fun G v => Rep G v (.tuple ds) ∨ (lsA Ms ds).h G v, fun e h => h.imp (fun h => Rep.mono e _ _ h) fun h => (lsA Ms ds).mono e h⟩
theorem Ev.sqT {ds : List PyData} (h : Ev c Ms As te (dp (.tuple ds))) : Ev c Ms As te (sqA [] ds) := h.le fun _ _ a => .inl a
theorem Ev.sqL {ds : List PyData} (h : Ev c Ms As te (dp (.list ds))) : Ev c Ms As te (sqA [] ds) := h.le fun _ _ a => .inr (.inl a)
theorem Ev.sqO {ds : List PyData} {p : Addr} {Ms' : MS} (h : Ev c Ms As te (valA (.ref p))) (m : (p, Mc.lst ds) ∈ Ms') : Ev c Ms As te (sqA Ms' ds) := h.le fun _ _ a => .inr (.inr ⟨p, a, m⟩)
theorem Ev.lsq {ds : List PyData} {Ms' : MS} (h : Ev c Ms As te (lsA Ms' ds)) : Ev c Ms As te (sqA Ms' ds) := h.le fun _ _ a => .inr a
theorem sqA.at_ {Ms' : MS} {ds : List PyData} {H R : Hp} {v : V} (h : (sqA Ms' ds).h R v) (hs : Ms' ⊆ Ms) (w : Wf c H R) (m : Muts c Ms H R) : ∃ a vs, v = .ref a ∧ (H a = some (.lst vs) ∨ H a = some (.tup vs)) ∧ Reps R vs ds := by
  rcases h with h | h
  · cases h with | tup h1 h2 => exact ⟨_, _, rfl, .inr (w.sub _ _ h1), h2⟩
  · obtain ⟨a, vs, e, h1, h2⟩ := lsA.at_ h hs w m
    exact ⟨a, vs, e, .inl h1, h2⟩
theorem sq_or {H : Hp} {a : Addr} {vs : List V} (h : H a = some (.lst vs) ∨ H a = some (.tup vs)) : SqL K H a vs ∨ SqT K H a vs := h.imp (fun h => .inl (.inl h)) fun h => .inl (.inl h)
theorem ev_ixT {ds : List PyData} {i : Int} (ha : Ev c Ms As ta (dp (.tuple ds))) (hb : Ev c Ms As tb (dp (.int i))) (hi : L2.atI ds i = some d) : Ev c Ms As (tOp (rIxT K) ta tb) (dp d) :=
  ev_op0 ha hb fun H R x y w m a b Q q => by
    cases b
    cases a with
    | tup h1 r =>
      obtain ⟨v, hv, rv⟩ := r.atI hi
      exact ⟨_, _, i, v, rfl, rfl, .inl (.inl (w.sub _ _ h1)), hv, q v rv⟩
/-- x in ..: flat things -/
theorem inV_int (i : Int) : ∀ ns : List Int, inV (.int i) (ns.map V.int) = decide (i ∈ ns)
  | [] => rfl
  | n :: ns => by
    have ih := inV_int i ns
    unfold inV at ih ⊢
    rw [List.map_cons, List.any_cons, ih]
    by_cases h : n = i
    · subst h
      have e : eqV (V.int n) (V.int n) = true := by simp [eqV]
      rw [e]; simp
    · have e : eqV (V.int n) (V.int i) = false := by simp [eqV, h]
      rw [e]
      have h' : ¬ i = n := fun z => h z.symm
      simp [h']
theorem inV_str (x : Str) : ∀ ns : List Str, inV (.str x) (ns.map V.str) = decide (x ∈ ns)
  | [] => rfl
  | n :: ns => by
    have ih := inV_str x ns
    unfold inV at ih ⊢
    rw [List.map_cons, List.any_cons, ih]
    by_cases h : n = x
    · subst h
      have e : eqV (V.str n) (V.str n) = true := by simp [eqV]
      rw [e]; simp
    · have e : eqV (V.str n) (V.str x) = false := by simp [eqV, h]
      rw [e]
      have h' : ¬ x = n := fun z => h z.symm
      simp [h']
theorem flat_ints : ∀ ns : List Int, (ns.map V.int).all flatV = true
  | [] => rfl
  | n :: ns => by rw [List.map_cons, List.all_cons, flat_ints ns]; rfl
theorem flat_strs : ∀ ns : List Str, (ns.map V.str).all flatV = true
  | [] => rfl
  | n :: ns => by rw [List.map_cons, List.all_cons, flat_strs ns]; rfl
theorem natsD_eq (ns : List Nat) : natsD ns = intsD (ns.map fun n : Nat => (n : Int)) := by
  unfold natsD intsD
  rw [List.map_map] <;> rfl
theorem mem_nats {i : Nat} {ns : List Nat} : ((i : Int) ∈ ns.map fun n : Nat => (n : Int)) ↔ i ∈ ns := by
  rw [List.mem_map]
  exact ⟨fun ⟨a, h1, h2⟩ => by have : a = i := by omega
                               exact this ▸ h1, fun h => ⟨i, h, rfl⟩⟩
theorem ev_inI {Ms' : MS} {i : Int} {ns : List Int} {neg : Bool} (ha : Ev c Ms As ta (dp (.int i))) (hb : Ev c Ms As tb (sqA Ms' (intsD ns))) (hs : Ms' ⊆ Ms := by first | exact List.nil_subset _ | exact List.Subset.refl _ | simp) :
    Ev c Ms As (tOp (rIn K neg) ta tb) (dp (.bool (if neg then !decide (i ∈ ns) else decide (i ∈ ns)))) :=
  ev_op0 ha hb fun H R x y w m a b Q q => by
    cases a
    obtain ⟨p, vs, rfl, hp, r⟩ := sqA.at_ b hs w m
    have e := r.toInts
    subst e
    refine ⟨p, _, rfl, sq_or hp, rfl, flat_ints ns, ?_⟩
    rw [inV_int]
    exact q _ (.bl _)
theorem ev_inN {Ms' : MS} {i : Nat} {ns : List Nat} (ha : Ev c Ms As ta (dp (.int (i : Int)))) (hb : Ev c Ms As tb (sqA Ms' (natsD ns))) (hs : Ms' ⊆ Ms := by first | exact List.nil_subset _ | exact List.Subset.refl _ | simp) :
    Ev c Ms As (tOp (rIn K false) ta tb) (dp (.bool (decide (i ∈ ns)))) := by
  rw [natsD_eq] at hb
  refine (ev_inI (neg := false) ha hb hs).to ?_
  simp only [mem_nats, Bool.false_eq_true, if_false]
theorem ev_niN {Ms' : MS} {i : Nat} {ns : List Nat} (ha : Ev c Ms As ta (dp (.int (i : Int)))) (hb : Ev c Ms As tb (sqA Ms' (natsD ns))) (hs : Ms' ⊆ Ms := by first | exact List.nil_subset _ | exact List.Subset.refl _ | simp) :
    Ev c Ms As (tOp (rIn K true) ta tb) (dp (.bool (!decide (i ∈ ns)))) := by
  rw [natsD_eq] at hb
  refine (ev_inI (neg := true) ha hb hs).to ?_
  simp only [mem_nats, if_true]
def strsD (xs : List Str) : List PyData := xs.map .str
theorem Reps.toStrs {G : Hp} : ∀ {ns : List Str} {vs : List V}, Reps G vs (strsD ns) → vs = ns.map V.str
  | [], _, h => by cases h; rfl
  | n :: ns, _, h => by
    have h' : Reps G _ (.str n :: strsD ns) := h
    cases h' with
    | cons h1 h2 => cases h1; rw [Reps.toStrs h2]; rfl
theorem ev_inS {x : Str} {xs : List Str} {neg : Bool} (ha : Ev c Ms As ta (dp (.str x))) (hb : Ev c Ms As tb (dp (.tuple (strsD xs)))) :
    Ev c Ms As (tOp (rIn K neg) ta tb) (dp (.bool (if neg then !decide (x ∈ xs) else decide (x ∈ xs)))) :=
  ev_op0 ha hb.sqT fun H R x' y w m a b Q q => by
    cases a
    obtain ⟨p, vs, rfl, hp, r⟩ := sqA.at_ b (List.nil_subset Ms) w m
    have e := r.toStrs
    subst e
    refine ⟨p, _, rfl, sq_or hp, rfl, flat_strs xs, ?_⟩
    rw [inV_str]
    exact q _ (.bl _)

/-! ### arguments, displays -/
theorem ea_nil : EvA c Ms As tNil [] := fun σ H R s Q q => q [] H R (.refl s.wf) .nil
theorem ea_cons {tr : TA} {as : List Asr} (ha : Ev c Ms As ta A) (hr : EvA c Ms As tr as) : EvA c Ms As (tCons ta tr) (A :: as) := fun σ H R s Q q =>
  ha.bind s fun v H1 R1 g1 s1 a => hr σ H1 R1 s1 _ fun vs H2 R2 g2 b => q _ H2 R2 (g1.trans s.wf g2) (.cons (A.mono g2.rr a) b)
theorem HoldsAll.reps {R : Hp} : ∀ {ds : List PyData} {vs : List V}, HoldsAll R vs (ds.map dp) → Reps R vs ds
  | [], _, h => by cases h; exact .nil
  | d :: ds, _, h => by
    have h' : HoldsAll R _ (dp d :: ds.map dp) := h
    cases h' with
    | cons h1 h2 => exact .cons h1 (HoldsAll.reps h2)
theorem ev_tup {tA : TA} {as : List Asr} {ds : List PyData} (h : EvA c Ms As tA as) (he : as = ds.map dp := by rfl) (hl : ds.length ≤ 100000 := by simp) : Ev c Ms As (tTup tA) (dp (.tuple ds)) := fun σ H R s Q q =>
  h σ H R s _ fun vs H1 R1 g a => by
    subst he
    have r := a.reps
    refine ⟨by rw [r.length]; exact Nat.le_trans hl (by decide), fun p hp => q _ _ _ (g.trans s.wf (.new g.wf hp)) (.tup upd_same (r.mono (same_new (g.wf.none hp))))⟩
theorem el_lst {tA : TA} {as : List Asr} {ds : List PyData} (h : EvA c Ms As tA as) (he : as = ds.map dp := by rfl) (hl : ds.length ≤ 100000 := by simp) : EvL c Ms As (tLst tA) ds := fun σ H R s Q q =>
  h σ H R s _ fun vs H1 R1 g a => by
    subst he
    have r := a.reps
    refine ⟨by rw [r.length]; exact Nat.le_trans hl (by decide), fun p hp => ?_⟩
    refine q p vs _ R1 (g.trans s.wf (.lay g.wf hp)) ?_ (g.wf.none hp) upd_same r
    cases q0 : H p with
    | none => rfl
    | some o =>
      by_cases hx : p ∈ c.Mu
      · obtain ⟨u, hu⟩ := c.alive g.wf.j p (c.sub p hx)
        rw [hp] at hu; cases hu
      · rw [g.gr p o hx q0] at hp; cases hp
theorem Grow.back {H R H' R' : Hp} (g : Grow c H R H' R') {p : Addr} (hp : H' p = none) : H p = none := by
  cases q0 : H p with
  | none => rfl
  | some o =>
    by_cases hx : p ∈ c.Mu
    · obtain ⟨u, hu⟩ := c.alive g.wf.j p (c.sub p hx)
      rw [hp] at hu; cases hu
    · rw [g.gr p o hx q0] at hp; cases hp
/-! ### and, or, not, if -/
theorem ev_if {b : Bool} (h : EvT c Ms As t b) (h1 : b = true → Ev c Ms As ta A) (h2 : b = false → Ev c Ms As tb A) : Ev c Ms As (tIf t ta tb) A := fun σ H R s Q q =>
  h σ H R s _ fun H1 R1 g => by
    cases b with
    | true => exact h1 rfl σ H1 R1 (s.grow g) Q fun v H2 R2 g2 a => q v H2 R2 (g.trans s.wf g2) a
    | false => exact h2 rfl σ H1 R1 (s.grow g) Q fun v H2 R2 g2 a => q v H2 R2 (g.trans s.wf g2) a
theorem ev_ifd {b : Bool} {d e : PyData} (h : EvT c Ms As t b) (h1 : b = true → Ev c Ms As ta (dp d)) (h2 : b = false → Ev c Ms As tb (dp e)) : Ev c Ms As (tIf t ta tb) (dp (if b = true then d else e)) :=
  ev_if h (fun hb => by rw [if_pos hb]; exact h1 hb) (fun hb => by rw [if_neg (by rw [hb]; exact Bool.false_ne_true)]; exact h2 hb)
theorem et_B {b : Bool} (h : Ev c Ms As te (dp (.bool b))) : EvT c Ms As (tB te) b := fun σ H R s Q q =>
  h.bind s fun v H1 R1 g _ a => by cases a; exact ⟨b, rfl, q H1 R1 g⟩
theorem et_test {b : Bool} (h : Ev c Ms As te (dp (.bool b))) : EvT c Ms As (tTest te) b := fun σ H R s Q q =>
  h.bind s fun v H1 R1 g _ a => by cases a; exact ⟨b, rfl, q H1 R1 g⟩
theorem et_yes : EvT c Ms As tYes true := fun σ H R s Q q => q H R (.refl s.wf)
theorem et_not {b : Bool} (h : EvT c Ms As t b) : EvT c Ms As (tNot t) (!b) := fun σ H R s Q q => h σ H R s _ fun H1 R1 g => q H1 R1 g
theorem et_and {a b : Bool} (h1 : EvT c Ms As t a) (h2 : a = true → EvT c Ms As u b) : EvT c Ms As (tAnd t u) (a && b) := fun σ H R s Q q =>
  h1 σ H R s _ fun H1 R1 g => by
    cases a with
    | true => exact h2 rfl σ H1 R1 (s.grow g) Q fun H2 R2 g2 => q H2 R2 (g.trans s.wf g2)
    | false => exact q H1 R1 g
theorem et_or {a b : Bool} (h1 : EvT c Ms As t a) (h2 : a = false → EvT c Ms As u b) : EvT c Ms As (tOr t u) (a || b) := fun σ H R s Q q =>
  h1 σ H R s _ fun H1 R1 g => by
    cases a with
    | true => exact q H1 R1 g
    | false => exact h2 rfl σ H1 R1 (s.grow g) Q fun H2 R2 g2 => q H2 R2 (g.trans s.wf g2)
theorem ev_andV {a b : Bool} (h1 : Ev c Ms As ta (dp (.bool a))) (h2 : a = true → Ev c Ms As tb (dp (.bool b))) : Ev c Ms As (tAndV ta tb) (dp (.bool (a && b))) := fun σ H R s Q q =>
  h1.bind s fun v H1 R1 g s1 x => by
    cases x
    refine ⟨a, rfl, ?_⟩
    cases a with
    | true => exact h2 rfl σ H1 R1 s1 Q fun v H2 R2 g2 z => q v H2 R2 (g.trans s.wf g2) z
    | false => exact q _ H1 R1 g (.bl _)
theorem ev_orV {a b : Bool} (h1 : Ev c Ms As ta (dp (.bool a))) (h2 : a = false → Ev c Ms As tb (dp (.bool b))) : Ev c Ms As (tOrV ta tb) (dp (.bool (a || b))) := fun σ H R s Q q =>
  h1.bind s fun v H1 R1 g s1 x => by
    cases x
    refine ⟨a, rfl, ?_⟩
    cases a with
    | true => exact q _ H1 R1 g (.bl _)
    | false => exact h2 rfl σ H1 R1 s1 Q fun v H2 R2 g2 z => q v H2 R2 (g.trans s.wf g2) z
theorem ev_notV {a : Bool} (h1 : Ev c Ms As ta (dp (.bool a))) : Ev c Ms As (tNotV ta) (dp (.bool (!a))) := fun σ H R s Q q =>
  h1.bind s fun v H1 R1 g s1 x => by cases x; exact ⟨a, rfl, q _ H1 R1 g (.bl _)⟩
/-- a < b < c of ints -/
theorem ev_chain {r r' : R2} {tc : TE} {B C : Asr} {b1 b2 : Bool} (ha : Ev c Ms As ta A) (hb : Ev c Ms As tb B) (hc : Ev c Ms As tc C)
    (h1 : ∀ H R x y, Wf c H R → A.h R x → B.h R y → ∀ Q : VK, Q (.bl b1) H → r x y H Q) (h2 : ∀ H R x y, Wf c H R → B.h R x → C.h R y → ∀ Q : VK, Q (.bl b2) H → r' x y H Q) :
    Ev c Ms As (tChain r r' ta tb tc) (dp (.bool (b1 && b2))) := fun σ H R s Q q =>
  ha.bind s fun x H1 R1 g1 s1 a => hb.bind s1 fun y H2 R2 g2 s2 b => h1 H2 R2 x y s2.wf (A.mono g2.rr a) b _ ⟨b1, rfl, by
    have g := g1.trans s.wf g2
    cases b1 with
    | true => exact hc.bind s2 fun z H3 R3 g3 s3 cc => h2 H3 R3 y z s3.wf (B.mono g3.rr b) cc _ (q _ H3 R3 (g.trans s.wf g3) (.bl _))
    | false => exact q _ H2 R2 g (.bl _)⟩
theorem ev_chainLe {tc : TE} {i j k : Int} (ha : Ev c Ms As ta (dp (.int i))) (hb : Ev c Ms As tb (dp (.int j))) (hc : Ev c Ms As tc (dp (.int k))) :
    Ev c Ms As (tChain (rI0 fun i j => .bl (decide (i ≤ j))) (rI0 fun i j => .bl (decide (i ≤ j))) ta tb tc) (dp (.bool (decide (i ≤ j) && decide (j ≤ k)))) :=
  ev_chain ha hb hc (fun H R x y _ a b Q q => by cases a; cases b; exact ⟨_, _, rfl, rfl, q⟩) (fun H R x y _ a b Q q => by cases a; cases b; exact ⟨_, _, rfl, rfl, q⟩)
/-! ### built-ins by their values -/
theorem ev_cb {r : List V → Hp → VK → Prop} {tA : TA} {as : List Asr} (h : EvA c Ms As tA as) (hr : ∀ H R vs, Wf c H R → Muts c Ms H R → HoldsAll R vs as → ∀ Q : VK, (∀ v H' R', Grow c H R H' R' → B.h R' v → Q v H') → r vs H Q) : Ev c Ms As (tCB r tA) B := fun σ H R s Q q =>
  h σ H R s _ fun vs H1 R1 g a => hr H1 R1 vs g.wf (s.mu.grow g) a Q fun v H2 R2 g2 b => q v H2 R2 (g.trans s.wf g2) b
theorem ev_cb1 {r : List V → Hp → VK → Prop} (h : Ev c Ms As ta A) (hr : ∀ H R x, Wf c H R → Muts c Ms H R → A.h R x → ∀ Q : VK, (∀ v H' R', Grow c H R H' R' → B.h R' v → Q v H') → r [x] H Q) : Ev c Ms As (tCB r (tCons ta tNil)) B :=
  ev_cb (ea_cons h ea_nil) fun H R vs w m a Q q => by
    cases a with
    | cons a1 a2 => cases a2; exact hr H R _ w m a1 Q q
theorem ev_cb2 {r : List V → Hp → VK → Prop} {A' : Asr} (h : Ev c Ms As ta A) (h' : Ev c Ms As tb A') (hr : ∀ H R x y, Wf c H R → Muts c Ms H R → A.h R x → A'.h R y → ∀ Q : VK, (∀ v H' R', Grow c H R H' R' → B.h R' v → Q v H') → r [x, y] H Q) : Ev c Ms As (tCB r (tCons ta (tCons tb tNil))) B :=
  ev_cb (ea_cons h (ea_cons h' ea_nil)) fun H R vs w m a Q q => by
    cases a with
    | cons a1 a2 =>
      cases a2 with
      | cons a2 a3 => cases a3; exact hr H R _ _ w m a1 a2 Q q
theorem el_cb1 {r : List V → Hp → VK → Prop} {ds : List PyData} (h : Ev c Ms As ta A) (hr : ∀ H R x, Wf c H R → Muts c Ms H R → A.h R x → ∀ Q : VK, (∀ p vs H' R', Grow c H R H' R' → H p = none → R' p = none → H' p = some (.lst vs) → Reps R' vs ds → Q (.ref p) H') → r [x] H Q) : EvL c Ms As (tCB r (tCons ta tNil)) ds := fun σ H R s Q q =>
  h.bind s fun v H1 R1 g s1 a => hr H1 R1 v g.wf s1.mu a Q fun p vs H2 R2 g2 h0 h1 h2 h3 => q p vs H2 R2 (g.trans s.wf g2) (g.back h0) h1 h2 h3
theorem ev_len {Ms' : MS} {ds : List PyData} (h : Ev c Ms As ta (sqA Ms' ds)) (hs : Ms' ⊆ Ms := by first | exact List.nil_subset _ | exact List.Subset.refl _ | simp) :
    Ev c Ms As (tCB (fun xs H Q => ∃ p ys, xs = [.ref p] ∧ (SqL K H p ys ∨ SqT K H p ys) ∧ Q (.int ys.length) H) (tCons ta tNil)) (dp (.int (ds.length : Int))) :=
  ev_cb1 h fun H R x w m a Q q => by
    obtain ⟨p, vs, rfl, hp, r⟩ := sqA.at_ a hs w m
    exact ⟨p, vs, rfl, sq_or hp, q _ H R (.refl w) (by rw [r.length]; exact .int _)⟩
theorem ev_abs {i : Int} (h : Ev c Ms As ta (dp (.int i))) : Ev c Ms As (tCB (fun xs H Q => ∃ i, xs = [.int i] ∧ Q (.int (if i < 0 then -i else i)) H) (tCons ta tNil)) (dp (.int (if i < 0 then -i else i))) :=
  ev_cb1 h fun H R x w m a Q q => by cases a; exact ⟨i, rfl, q _ H R (.refl w) (.int _)⟩
theorem ev_int1 {i : Int} (h : Ev c Ms As ta (dp (.int i))) : Ev c Ms As (tCB (fun xs H Q => (∃ i, xs = [.int i] ∧ Q (.int i) H) ∨ ∃ k, xs = [.bl k] ∧ Q (.int (if k then 1 else 0)) H) (tCons ta tNil)) (dp (.int i)) :=
  ev_cb1 h fun H R x w m a Q q => by cases a; exact .inl ⟨i, rfl, q _ H R (.refl w) (.int _)⟩
theorem ev_max2 {i j : Int} (h : Ev c Ms As ta (dp (.int i))) (h' : Ev c Ms As tb (dp (.int j))) : Ev c Ms As (tCB (fun xs H Q => ∃ i j, xs = [.int i, .int j] ∧ Q (.int (if j > i then j else i)) H) (tCons ta (tCons tb tNil))) (dp (.int (max i j))) :=
  ev_cb2 h h' fun H R x y w m a b Q q => by
    cases a; cases b
    exact ⟨i, j, rfl, q _ H R (.refl w) (by have e : (if j > i then j else i) = max i j := by split <;> omega
                                            rw [e]; exact .int _)⟩
theorem ev_min2 {i j : Int} (h : Ev c Ms As ta (dp (.int i))) (h' : Ev c Ms As tb (dp (.int j))) : Ev c Ms As (tCB (fun xs H Q => ∃ i j, xs = [.int i, .int j] ∧ Q (.int (if j < i then j else i)) H) (tCons ta (tCons tb tNil))) (dp (.int (min i j))) :=
  ev_cb2 h h' fun H R x y w m a b Q q => by
    cases a; cases b
    exact ⟨i, j, rfl, q _ H R (.refl w) (by have e : (if j < i then j else i) = min i j := by split <;> omega
                                            rw [e]; exact .int _)⟩
theorem ev_all {bs : List Bool} (h : Ev c Ms As ta (dp (.list (bs.map .bool)))) : Ev c Ms As (tCB (rAll K) (tCons ta tNil)) (dp (.bool (bs.all id))) :=
  ev_cb1 h fun H R x w m a Q q => by
    cases a with
    | lst h1 r => have e := r.bools; subst e; exact ⟨_, bs, rfl, .inl (.inl (w.sub _ _ h1)), q _ H R (.refl w) (.bl _)⟩
theorem ev_any {bs : List Bool} (h : Ev c Ms As ta (dp (.list (bs.map .bool)))) : Ev c Ms As (tCB (rAny K) (tCons ta tNil)) (dp (.bool (bs.any id))) :=
  ev_cb1 h fun H R x w m a Q q => by
    cases a with
    | lst h1 r => have e := r.bools; subst e; exact ⟨_, bs, rfl, .inl (.inl (w.sub _ _ h1)), q _ H R (.refl w) (.bl _)⟩
theorem ev_sum {ns : List Int} (h : Ev c Ms As ta (dp (.list (intsD ns)))) : Ev c Ms As (tCB (rSum K) (tCons ta tNil)) (dp (.int ns.sum)) :=
  ev_cb1 h fun H R x w m a Q q => by
    cases a with
    | lst h1 r => have e := r.toInts; subst e; exact ⟨_, ns, rfl, .inl (.inl (w.sub _ _ h1)), q _ H R (.refl w) (.int _)⟩
theorem ev_max {ns : List Int} {k : Int} (h : Ev c Ms As ta (dp (.list (intsD ns)))) (h1 : k ∈ ns) (h2 : ∀ y ∈ ns, y ≤ k) : Ev c Ms As (tCB (rMax K) (tCons ta tNil)) (dp (.int k)) :=
  ev_cb1 h fun H R x w m a Q q => by
    cases a with
    | lst e1 r =>
      have e := r.toInts
      subst e
      refine ⟨_, ns, rfl, .inl (.inl (w.sub _ _ e1)), List.length_pos_of_mem h1, fun m' hm hle => ?_⟩
      have : m' = k := by have := hle k h1; have := h2 m' hm; omega
      rw [this]
      exact q _ H R (.refl w) (.int _)
theorem ev_min {ns : List Int} {k : Int} (h : Ev c Ms As ta (dp (.list (intsD ns)))) (h1 : k ∈ ns) (h2 : ∀ y ∈ ns, k ≤ y) : Ev c Ms As (tCB (rMin K) (tCons ta tNil)) (dp (.int k)) :=
  ev_cb1 h fun H R x w m a Q q => by
    cases a with
    | lst e1 r =>
      have e := r.toInts
      subst e
      refine ⟨_, ns, rfl, .inl (.inl (w.sub _ _ e1)), List.length_pos_of_mem h1, fun m' hm hle => ?_⟩
      have : m' = k := by have := hle k h1; have := h2 m' hm; omega
      rw [this]
      exact q _ H R (.refl w) (.int _)
/-- sorted of a list of ints, fewer than 64 -/
theorem sorted_unique {a b : List Int} (p : a.Perm b) (ha : a.Pairwise (· ≤ ·)) (hb : b.Pairwise (· ≤ ·)) : a = b := p.eq_of_pairwise (le := fun x y : Int => x ≤ y) (fun x y _ _ h1 h2 => by omega) ha hb
theorem el_sorted {Ms' : MS} {ns ms : List Int} (h : Ev c Ms As ta (lsA Ms' (intsD ns))) (hl : ns.length < 64) (hp : ms.Perm ns) (hm : ms.Pairwise (· ≤ ·)) (hs : Ms' ⊆ Ms := by first | exact List.nil_subset _ | exact List.Subset.refl _ | simp) : EvL c Ms As (tCB (rSorted K) (tCons ta tNil)) (intsD ms) :=
  el_cb1 h fun H R x w m a Q q => by
    obtain ⟨p, vs, rfl, e1, r⟩ := lsA.at_ a hs w m
    have e := r.toInts
    subst e
    refine ⟨_, ns, rfl, .inl (.inl e1), hl, fun ns' p' pe pw hn => ?_⟩
    have e : ns' = ms := sorted_unique (pe.trans hp.symm) pw hm
    subst e
    exact q p' _ _ R (.lay w hn) hn (w.none hn) upd_same (.of_ints _)
theorem ev_tupleOf {Ms' : MS} {ds : List PyData} (h : Ev c Ms As ta (lsA Ms' ds)) (hs : Ms' ⊆ Ms := by first | exact List.nil_subset _ | exact List.Subset.refl _ | simp) :
    Ev c Ms As (tCB (fun xs H Q => ∃ p ys, xs = [.ref p] ∧ ((SqL K H p ys ∧ ∀ l, H l = none → Q (.ref l) (upd H l (.tup ys))) ∨ (SqT K H p ys ∧ Q (.ref p) H))) (tCons ta tNil)) (dp (.tuple ds)) :=
  ev_cb1 h fun H R x w m a Q q => by
    obtain ⟨p, vs, rfl, h1, r⟩ := lsA.at_ a hs w m
    exact ⟨_, _, rfl, .inl ⟨.inl (.inl h1), fun l hl => q _ _ _ (.new w hl) (.tup upd_same (r.mono (same_new (w.none hl))))⟩⟩
theorem el_listOf {Ms' : MS} {ds : List PyData} (h : Ev c Ms As ta (sqA Ms' ds)) (hs : Ms' ⊆ Ms := by first | exact List.nil_subset _ | exact List.Subset.refl _ | simp) :
    EvL c Ms As (tCB (fun xs H Q => ∃ p ys, xs = [.ref p] ∧ (SqL K H p ys ∨ SqT K H p ys) ∧ ∀ l, H l = none → Q (.ref l) (upd H l (.lst ys))) (tCons ta tNil)) ds :=
  el_cb1 h fun H R x w m a Q q => by
    obtain ⟨p, vs, rfl, hp, r⟩ := sqA.at_ a hs w m
    exact ⟨_, _, rfl, sq_or hp, fun l hl => q l vs _ R (.lay w hl) hl (w.none hl) upd_same r⟩

/-! ### + of sequences, [..] * k, slices -/
theorem ev_catT {ds es : List PyData} (ha : Ev c Ms As ta (dp (.tuple ds))) (hb : Ev c Ms As tb (dp (.tuple es))) (hl : ds.length + es.length ≤ 100000) : Ev c Ms As (tOp (rCatA K) ta tb) (dp (.tuple (ds ++ es))) :=
  ev_op ha hb fun H R x y w m a b Q q => by
    cases a with
    | tup a1 a2 =>
      cases b with
      | tup b1 b2 =>
        refine ⟨_, _, _, _, rfl, rfl, .inl (.inl (w.sub _ _ a1)), .inl (.inl (w.sub _ _ b1)), ?_, fun e => ?_, fun n e => ?_, fun n1 n2 p hp => ?_⟩
        · rw [a2.length, b2.length]; exact Nat.le_trans hl (by decide)
        · subst e; cases a2; exact q _ H R (.refl w) (.tup b1 b2)
        · subst e; cases b2; exact q _ H R (.refl w) (by show Rep _ _ (.tuple (ds ++ [])); rw [List.append_nil]; exact .tup a1 a2)
        · exact q _ _ _ (.new w hp) (.tup upd_same ((a2.append b2).mono (same_new (w.none hp))))
theorem el_op {r : R2} {ds : List PyData} (ha : Ev c Ms As ta A) (hb : Ev c Ms As tb B)
    (hr : ∀ H R x y, Wf c H R → Muts c Ms H R → A.h R x → B.h R y → ∀ Q : VK, (∀ p vs H' R', Grow c H R H' R' → H p = none → R' p = none → H' p = some (.lst vs) → Reps R' vs ds → Q (.ref p) H') → r x y H Q) : EvL c Ms As (tOp r ta tb) ds := fun σ H R s Q q =>
  ha.bind s fun x H1 R1 g1 s1 a => hb.bind s1 fun y H2 R2 g2 s2 b =>
    hr H2 R2 x y s2.wf s2.mu (A.mono g2.rr a) b Q fun p vs H3 R3 g3 h0 h1 h2 h3 => q p vs H3 R3 ((g1.trans s.wf g2).trans s.wf g3) (g1.back (g2.back h0)) h1 h2 h3
theorem el_cat {Ms' Ms'' : MS} {ds es : List PyData} (ha : Ev c Ms As ta (lsA Ms' ds)) (hb : Ev c Ms As tb (lsA Ms'' es)) (hl : ds.length + es.length ≤ 100000) (hs : Ms' ⊆ Ms := by first | exact List.nil_subset _ | exact List.Subset.refl _ | simp)
    (hs' : Ms'' ⊆ Ms := by first | exact List.nil_subset _ | exact List.Subset.refl _ | simp) : EvL c Ms As (tOp rCat ta tb) (ds ++ es) :=
  el_op ha hb fun H R x y w m a b Q q => by
    obtain ⟨p, vs, rfl, hp, r⟩ := lsA.at_ a hs w m
    obtain ⟨p', us, rfl, hp', r'⟩ := lsA.at_ b hs' w m
    exact ⟨p, p', vs, us, rfl, rfl, hp, hp', by rw [r.length, r'.length]; exact Nat.le_trans hl (by decide), fun l hn => q l _ _ R (.lay w hn) hn (w.none hn) upd_same (r.append r')⟩
theorem Reps.rep1 {R : Hp} {v : V} {d : PyData} (h : Rep R v d) : ∀ n, Reps R (List.replicate n [v]).flatten (List.replicate n d)
  | 0 => .nil
  | n + 1 => by rw [List.replicate_succ, List.flatten_cons, List.replicate_succ]; exact .cons h (Reps.rep1 h n)
theorem el_rep {d : PyData} {k : Int} (ha : EvL c Ms As ta [d]) (hb : Ev c Ms As tb (dp (.int k))) (hk : 0 ≤ k ∧ k ≤ 100000) : EvL c Ms As (tOp rRep ta tb) (List.replicate k.toNat d) :=
  el_op ha.ev hb fun H R x y w m a b Q q => by
    cases b
    cases a with
    | lst h1 r =>
      cases r with
      | cons r1 r2 =>
        cases r2
        refine ⟨_, k, _, rfl, rfl, w.sub _ _ h1, by omega, by omega, ?_, fun l hn => q l _ _ R (.lay w hn) hn (w.none hn) upd_same (Reps.rep1 r1 _)⟩
        have h2 : 1 * k.toNat ≤ 100000 := by omega
        exact Nat.le_trans h2 (by decide)
def EvO (c : Kx) (Ms : MS) (As : AS) (to : TO) (o : Option Int) : Prop := ∀ σ H R, Sit c Ms As σ H R → ∀ Q : Option Int → Hp → Prop, (∀ H' R', Grow c H R H' R' → Q o H') → to σ H Q
theorem eo_none : EvO c Ms As tNoPart none := fun σ H R s Q q => q H R (.refl s.wf)
theorem eo_some {i : Int} (h : Ev c Ms As te (dp (.int i))) : EvO c Ms As (tPart te) (some i) := fun σ H R s Q q => h.bind s fun v H1 R1 g _ a => by cases a; exact ⟨i, rfl, q H1 R1 g⟩
def cutD (ds : List PyData) (lo hi : Option Int) : List PyData := (ds.drop (HT.sIx ds.length 0 lo)).take (HT.sIx ds.length ds.length hi - HT.sIx ds.length 0 lo)
theorem cutD_from (ds : List PyData) (k : Nat) : cutD ds (some (k : Int)) none = ds.drop k := by
  unfold cutD
  rw [HT.sIx_none, HT.sIx_nat]
  by_cases h : k ≤ ds.length
  · rw [Nat.min_eq_left h]
    exact List.take_of_length_le (by rw [List.length_drop]; omega)
  · have h' : ds.length ≤ k := by omega
    rw [Nat.min_eq_right h', List.drop_eq_nil_of_le h', List.drop_eq_nil_of_le (Nat.le_refl _)]
    exact List.take_nil
theorem cutD_to (ds : List PyData) (k : Nat) : cutD ds none (some (k : Int)) = ds.take k := by
  unfold cutD
  rw [HT.sIx_none, HT.sIx_nat, List.drop_zero, Nat.sub_zero]
  by_cases h : k ≤ ds.length
  · rw [Nat.min_eq_left h]
  · have h' : ds.length ≤ k := by omega
    rw [Nat.min_eq_right h', List.take_of_length_le h', List.take_of_length_le (Nat.le_refl _)]
theorem ev_slT {tl th : TO} {ds : List PyData} {lo hi : Option Int} (ha : Ev c Ms As te (dp (.tuple ds))) (h1 : EvO c Ms As tl lo) (h2 : EvO c Ms As th hi) : Ev c Ms As (tSl (rSlA K) te tl th) (dp (.tuple (cutD ds lo hi))) := fun σ H R s Q q =>
  ha.bind s fun x H1 R1 g1 s1 a => h1 σ H1 R1 s1 _ fun H2 R2 g2 => h2 σ H2 R2 (s1.grow g2) _ fun H3 R3 g3 => by
    have g := (g1.trans s.wf g2).trans s.wf g3
    have a' := Rep.mono (g2.rr.trans g3.rr) _ _ a
    cases a' with
    | tup e1 r =>
      have hl := r.length
      refine ⟨_, _, rfl, .inl (.inl (g.wf.sub _ _ e1)), fun ⟨z1, z2⟩ => ?_, fun _ p hp => ?_⟩
      · rw [hl] at z1 z2
        have e : cutD ds lo hi = ds := by unfold cutD; rw [z1, z2, List.drop_zero, Nat.sub_zero, List.take_length]
        exact q _ _ _ g (by show Rep _ _ (.tuple (cutD ds lo hi)); rw [e]; exact .tup e1 r)
      · refine q _ _ _ (g.trans s.wf (.new g.wf hp)) (.tup upd_same (Reps.mono (same_new (g.wf.none hp)) _ _ ?_))
        unfold cutV cutD
        rw [hl]
        exact (r.drop _).take _
theorem el_slL {tl th : TO} {Ms' : MS} {ds : List PyData} {lo hi : Option Int} (ha : Ev c Ms As te (lsA Ms' ds)) (h1 : EvO c Ms As tl lo) (h2 : EvO c Ms As th hi) (hs : Ms' ⊆ Ms := by first | exact List.nil_subset _ | exact List.Subset.refl _ | simp) : EvL c Ms As (tSl (rSlL K) te tl th) (cutD ds lo hi) := fun σ H R s Q q =>
  ha.bind s fun x H1 R1 g1 s1 a => h1 σ H1 R1 s1 _ fun H2 R2 g2 => h2 σ H2 R2 (s1.grow g2) _ fun H3 R3 g3 => by
    have g := (g1.trans s.wf g2).trans s.wf g3
    obtain ⟨p, vs, rfl, hp, r⟩ := lsA.at_ ((lsA Ms' ds).mono (g2.rr.trans g3.rr) a) hs g.wf (s.mu.grow g)
    refine ⟨p, vs, rfl, .inl (.inl hp), fun l hn => q l _ _ R3 (g.trans s.wf (.lay g.wf hn)) (g.back hn) (g.wf.none hn) upd_same ?_⟩
    unfold cutV cutD
    rw [r.length]
    exact (r.drop _).take _
theorem el_revL {Ms' : MS} {ds : List PyData} (ha : Ev c Ms As te (lsA Ms' ds)) (hs : Ms' ⊆ Ms := by first | exact List.nil_subset _ | exact List.Subset.refl _ | simp) : EvL c Ms As (tRevL K te) ds.reverse := fun σ H R s Q q =>
  ha.bind s fun x H1 R1 g1 s1 a => by
    obtain ⟨p, vs, rfl, hp, r⟩ := lsA.at_ a hs g1.wf s1.mu
    exact ⟨p, vs, rfl, .inl (.inl hp), fun l hn => q l _ _ R1 (g1.trans s.wf (.lay g1.wf hn)) (g1.back hn) (g1.wf.none hn) upd_same r.reverse⟩
end
end Rb
end
section
set_option Elab.async false
set_option linter.all false
set_option maxRecDepth 100000
set_option maxHeartbeats 4000000
namespace Rb
open PySem L2

section
variable {c : Kx} {Ms : MS} {As : AS} {ta tb te : TE} {A B : Asr} {K : PySem.W.Frag} {d e : PyData} {t u : TT}
/-! ### dicts -/
def getK {κ β : Type} [DecidableEq κ] (kvs : List (κ × β)) (k : κ) : Option β := (kvs.find? fun kv => decide (kv.1 = k)).map (·.2)
def setK {κ β : Type} [DecidableEq κ] (kvs : List (κ × β)) (k : κ) (v : β) : List (κ × β) :=
  if (kvs.any fun kv => decide (kv.1 = k)) = true then kvs.map (fun kv => if kv.1 = k then (kv.1, v) else kv) else kvs ++ [(k, v)]
def dkA (Ms : MS) (kvs : List (Int × PyData)) : Asr := ⟨fun G v => (dicK kvs).h G v ∨ ∃ a, v = .ref a ∧ (a, Mc.dK kvs) ∈ Ms, fun e h => h.imp (fun h => (dicK kvs).mono e h) fun h => h⟩
def dtA (Ms : MS) (kvs : List (List Int × PyData)) : Asr := ⟨fun G v => (dicT kvs).h G v ∨ ∃ a, v = .ref a ∧ (a, Mc.dT kvs) ∈ Ms, fun e h => h.imp (fun h => (dicT kvs).mono e h) fun h => h⟩
theorem Ev.dk {kvs : List (Int × PyData)} (h : Ev c Ms As te (dicK kvs)) : Ev c Ms As te (dkA [] kvs) := h.le fun _ _ a => .inl a
theorem Ev.dt {kvs : List (List Int × PyData)} (h : Ev c Ms As te (dicT kvs)) : Ev c Ms As te (dtA [] kvs) := h.le fun _ _ a => .inl a
theorem Ev.dko {kvs : List (Int × PyData)} {p : Addr} {Ms' : MS} (h : Ev c Ms As te (valA (.ref p))) (m : (p, Mc.dK kvs) ∈ Ms') : Ev c Ms As te (dkA Ms' kvs) := h.le fun _ _ a => .inr ⟨p, a, m⟩
theorem Ev.dto {kvs : List (List Int × PyData)} {p : Addr} {Ms' : MS} (h : Ev c Ms As te (valA (.ref p))) (m : (p, Mc.dT kvs) ∈ Ms') : Ev c Ms As te (dtA Ms' kvs) := h.le fun _ _ a => .inr ⟨p, a, m⟩
theorem dkA.at_ {Ms' : MS} {kvs : List (Int × PyData)} {H R : Hp} {v : V} (h : (dkA Ms' kvs).h R v) (hs : Ms' ⊆ Ms) (w : Wf c H R) (m : Muts c Ms H R) : ∃ a es, v = .ref a ∧ H a = some (.dK es) ∧ RepK R es kvs := by
  rcases h with ⟨a, es, h1, h2, h3⟩ | ⟨a, rfl, ha⟩
  · exact ⟨a, es, h1, w.sub _ _ h2, h3⟩
  · obtain ⟨es, h1, h2⟩ := m.ok _ (hs ha)
    exact ⟨a, es, rfl, h1, h2⟩
theorem dtA.at_ {Ms' : MS} {kvs : List (List Int × PyData)} {H R : Hp} {v : V} (h : (dtA Ms' kvs).h R v) (hs : Ms' ⊆ Ms) (w : Wf c H R) (m : Muts c Ms H R) : ∃ a es, v = .ref a ∧ H a = some (.dT es) ∧ RepT R es kvs := by
  rcases h with ⟨a, es, h1, h2, h3⟩ | ⟨a, rfl, ha⟩
  · exact ⟨a, es, h1, w.sub _ _ h2, h3⟩
  · obtain ⟨es, h1, h2⟩ := m.ok _ (hs ha)
    exact ⟨a, es, rfl, h1, h2⟩
/-- two association lists beside one another, the keys by an injection -/
theorem pair_get {κ κ' β : Type} [DecidableEq κ] [DecidableEq κ'] {f : κ' → κ} (inj : ∀ a b, f a = f b → a = b) {P : V → β → Prop} (k : κ') :
    ∀ {es : List (κ × V)} {kvs : List (κ' × β)}, Paired (fun e q => e.1 = f q.1 ∧ P e.2 q.2) es kvs →
      match getK kvs k with
      | some d => ∃ v, valV es (f k) = some v ∧ P v d
      | none => valV es (f k) = none
  | _, _, .nil => rfl
  | _, _, .cons (a := e) (b := q) (l₁ := es) (l₂ := kvs) h t => by
    have ih := pair_get inj k t
    by_cases hk : q.1 = k
    · have e1 : getK (q :: kvs) k = some q.2 := by simp [getK, List.find?_cons, hk]
      have e2 : valV (e :: es) (f k) = some e.2 := valV_pos (by rw [h.1, hk])
      rw [e1]
      exact ⟨_, e2, h.2⟩
    · have e1 : getK (q :: kvs) k = getK kvs k := by simp [getK, List.find?_cons, hk]
      have e2 : valV (e :: es) (f k) = valV es (f k) := valV_neg (by rw [h.1]; exact fun z => hk (inj _ _ z))
      rw [e1, e2]
      exact ih
theorem pair_any {κ κ' β : Type} [DecidableEq κ] [DecidableEq κ'] {f : κ' → κ} (inj : ∀ a b, f a = f b → a = b) {P : V → β → Prop} (k : κ') :
    ∀ {es : List (κ × V)} {kvs : List (κ' × β)}, Paired (fun e q => e.1 = f q.1 ∧ P e.2 q.2) es kvs → (es.any fun kv => decide (kv.1 = f k)) = kvs.any fun kv => decide (kv.1 = k)
  | _, _, .nil => rfl
  | _, _, .cons (a := e) (b := q) (l₁ := es) (l₂ := kvs) h t => by
    rw [List.any_cons, List.any_cons, pair_any inj k t, h.1]
    congr 1
    exact decide_eq_decide.mpr ⟨fun z => inj _ _ z, fun z => by rw [z]⟩
theorem pair_map {κ κ' β : Type} [DecidableEq κ] [DecidableEq κ'] {f : κ' → κ} (inj : ∀ a b, f a = f b → a = b) {P : V → β → Prop} (k : κ') {v : V} {d : β} (hv : P v d) :
    ∀ {es : List (κ × V)} {kvs : List (κ' × β)}, Paired (fun e q => e.1 = f q.1 ∧ P e.2 q.2) es kvs →
      Paired (fun e q => e.1 = f q.1 ∧ P e.2 q.2) (es.map fun kv => if kv.1 = f k then (kv.1, v) else kv) (kvs.map fun kv => if kv.1 = k then (kv.1, d) else kv)
  | _, _, .nil => .nil
  | _, _, .cons (a := e) (b := q) (l₁ := es) (l₂ := kvs) h t => by
    refine .cons ?_ (pair_map inj k hv t)
    by_cases hk : q.1 = k
    · dsimp only
      rw [if_pos (show e.1 = f k by rw [h.1, hk]), if_pos hk]
      exact ⟨h.1, hv⟩
    · dsimp only
      rw [if_neg (show ¬ e.1 = f k by rw [h.1]; exact fun z => hk (inj _ _ z)), if_neg hk]
      exact h
theorem Paired.app {α β : Type} {F : α → β → Prop} : ∀ {a a' : List α} {b b' : List β}, Paired F a b → Paired F a' b' → Paired F (a ++ a') (b ++ b')
  | _, _, _, _, .nil, k => k
  | _, _, _, _, .cons h t, k => .cons h (Paired.app t k)
theorem pair_put {κ κ' β : Type} [DecidableEq κ] [DecidableEq κ'] {f : κ' → κ} (inj : ∀ a b, f a = f b → a = b) {P : V → β → Prop} (k : κ') {v : V} {d : β} (hv : P v d)
    {es : List (κ × V)} {kvs : List (κ' × β)} (h : Paired (fun e q => e.1 = f q.1 ∧ P e.2 q.2) es kvs) : Paired (fun e q => e.1 = f q.1 ∧ P e.2 q.2) (putK es (f k) v) (setK kvs k d) := by
  unfold putK setK
  rw [pair_any inj k h]
  split
  · exact pair_map inj k hv h
  · exact Paired.app h (.cons ⟨rfl, hv⟩ .nil)
theorem inl_inj (a b : Int) (h : (Sum.inl a : Key) = Sum.inl b) : a = b := Sum.inl.inj h
theorem inls_inj : ∀ a b : List Int, a.map (Sum.inl : Int → Key) = b.map Sum.inl → a = b
  | [], [], _ => rfl
  | [], _ :: _, h => by simp at h
  | _ :: _, [], h => by simp at h
  | x :: a, y :: b, h => by
    rw [List.map_cons, List.map_cons] at h
    injection h with h1 h2
    rw [inl_inj _ _ h1, inls_inj a b h2]
theorem RepK.get {R : Hp} {es : List (Key × V)} {kvs : List (Int × PyData)} (h : RepK R es kvs) {k : Int} {d : PyData} (e : getK kvs k = some d) : ∃ v, valV es (.inl k) = some v ∧ Rep R v d := by
  have q := pair_get inl_inj k h
  rw [e] at q
  exact q
theorem RepT.get {R : Hp} {es : List (List Key × V)} {kvs : List (List Int × PyData)} (h : RepT R es kvs) {k : List Int} {d : PyData} (e : getK kvs k = some d) : ∃ v, valV es (k.map .inl) = some v ∧ Rep R v d := by
  have q := pair_get inls_inj k h
  rw [e] at q
  exact q
theorem kV_ints : ∀ ns : List Int, (ns.map (Sum.inl : Int → Key)).map kV = ns.map V.int
  | [] => rfl
  | n :: ns => by rw [List.map_cons, List.map_cons, List.map_cons, kV_ints ns]; rfl
theorem ev_dgetK {Ms' : MS} {kvs : List (Int × PyData)} {k : Int} (ha : Ev c Ms As ta (dkA Ms' kvs)) (hb : Ev c Ms As tb (dp (.int k))) (hk : getK kvs k = some d) (hs : Ms' ⊆ Ms := by first | exact List.nil_subset _ | exact List.Subset.refl _ | simp) :
    Ev c Ms As (tDGet ta tb) (dp d) := fun σ H R s Q q =>
  ha.bind s fun x H1 R1 g1 s1 a => hb.bind s1 fun y H2 R2 g2 s2 b => by
    cases b
    obtain ⟨p, es, rfl, hp, r⟩ := dkA.at_ ((dkA Ms' kvs).mono g2.rr a) hs s2.wf s2.mu
    obtain ⟨v, hv, rv⟩ := r.get hk
    exact ⟨p, v, rfl, by rw [← hv]; exact DGet.k (k := Sum.inl k) hp, q v H2 R2 (g1.trans s.wf g2) rv⟩
theorem ev_dgetT {Ms' : MS} {kvs : List (List Int × PyData)} {k : List Int} (ha : Ev c Ms As ta (dtA Ms' kvs)) (hb : Ev c Ms As tb (dp (.tuple (intsD k)))) (hk : getK kvs k = some d) (hs : Ms' ⊆ Ms := by first | exact List.nil_subset _ | exact List.Subset.refl _ | simp) :
    Ev c Ms As (tDGet ta tb) (dp d) := fun σ H R s Q q =>
  ha.bind s fun x H1 R1 g1 s1 a => hb.bind s1 fun y H2 R2 g2 s2 b => by
    cases b with
    | tup b1 b2 =>
      have e := b2.toInts
      subst e
      obtain ⟨p, es, rfl, hp, r⟩ := dtA.at_ ((dtA Ms' kvs).mono g2.rr a) hs s2.wf s2.mu
      obtain ⟨v, hv, rv⟩ := r.get hk
      exact ⟨p, v, rfl, by rw [← hv]; exact DGet.t hp (by rw [kV_ints]; exact s2.wf.sub _ _ b1), q v H2 R2 (g1.trans s.wf g2) rv⟩
theorem ev_dnotK {Ms' : MS} {kvs : List (Int × PyData)} {k : Int} (hb : Ev c Ms As tb (dp (.int k))) (ha : Ev c Ms As ta (dkA Ms' kvs)) (hs : Ms' ⊆ Ms := by first | exact List.nil_subset _ | exact List.Subset.refl _ | simp) :
    Ev c Ms As (tDNotIn tb ta) (dp (.bool (!(getK kvs k).isSome))) := fun σ H R s Q q =>
  hb.bind s fun y H1 R1 g1 s1 b => ha.bind s1 fun x H2 R2 g2 s2 a => by
    cases b
    obtain ⟨p, es, rfl, hp, r⟩ := dkA.at_ a hs s2.wf s2.mu
    refine ⟨p, valV es (.inl k), rfl, DGet.k (k := Sum.inl k) hp, ?_⟩
    have z := pair_get inl_inj k r
    have e : (valV es (.inl k)).isSome = (getK kvs k).isSome := by
      cases hg : getK kvs k with
      | none => rw [hg] at z; rw [show valV es (.inl k) = none from z]; rfl
      | some d => rw [hg] at z; obtain ⟨v, hv, _⟩ := z; rw [hv]; rfl
    rw [e]
    exact q _ H2 R2 (g1.trans s.wf g2) (.bl _)

/-! ### what is walked -/
structure Wk (c : Kx) (J : It) (R : Hp) (ds : List PyData) : Prop where
  goes : ∀ i H1 R1, i < ds.length → Wf c H1 R1 → Same R R1 → J.go i H1
  stops : ∀ H1 R1, Wf c H1 R1 → Same R R1 → J.stop ds.length H1
  yields : ∀ i d H1 R1 x H2, ds[i]? = some d → Wf c H1 R1 → Same R R1 → J.yld i H1 x H2 → ∃ R2, Grow c H1 R1 H2 R2 ∧ Rep R2 x d
def EvI (c : Kx) (Ms : MS) (As : AS) (wi : TI) (ds : List PyData) : Prop := ∀ σ H R, Sit c Ms As σ H R → ∀ Rk : It → Hp → Prop, (∀ J H' R', Grow c H R H' R' → Wk c J R' ds → Rk J H') → wi σ H Rk
theorem EvI.to {wi : TI} {ds es : List PyData} (h : EvI c Ms As wi ds) (e : ds = es) : EvI c Ms As wi es := e ▸ h
theorem wk_tup {K : PySem.W.Frag} {R : Hp} {a : Addr} {vs : List V} {ds : List PyData} (ha : R a = some (.tup vs)) (r : Reps R vs ds) : Wk c (Itt K a) R ds where
  goes := fun i H1 R1 hi w e => by
    have h2 : H1 a = some (.tup vs) := w.sub _ _ (e _ _ ha)
    have hv : i < vs.length := by rw [r.length]; exact hi
    exact ⟨vs, vs[i], .inl (.inl h2), List.getElem?_eq_getElem hv⟩
  stops := fun H1 R1 w e => ⟨vs, .inl (.inl (w.sub _ _ (e _ _ ha))), by rw [r.length]; exact Nat.le_refl _⟩
  yields := fun i d H1 R1 x H2 hd w e y => by
    obtain ⟨e2, y⟩ := y
    subst e2
    obtain ⟨v, hv, rv⟩ := r.get hd
    have h2 := y vs (.inl (.inl (w.sub _ _ (e _ _ ha))))
    rw [hv] at h2
    cases h2
    exact ⟨R1, .refl w, rv.mono e⟩
theorem wk_list {K : PySem.W.Frag} {R : Hp} {a : Addr} {vs : List V} {ds : List PyData} (ha : R a = some (.lst vs)) (r : Reps R vs ds) : Wk c (Itl K a) R ds where
  goes := fun i H1 R1 hi w e => by
    have h2 : H1 a = some (.lst vs) := w.sub _ _ (e _ _ ha)
    have hv : i < vs.length := by rw [r.length]; exact hi
    exact ⟨vs, vs[i], .inl (.inl h2), List.getElem?_eq_getElem hv⟩
  stops := fun H1 R1 w e => ⟨vs, .inl (.inl (w.sub _ _ (e _ _ ha))), by rw [r.length]; exact Nat.le_refl _⟩
  yields := fun i d H1 R1 x H2 hd w e y => by
    obtain ⟨e2, y⟩ := y
    subst e2
    obtain ⟨v, hv, rv⟩ := r.get hd
    have h2 := y vs (.inl (.inl (w.sub _ _ (e _ _ ha))))
    rw [hv] at h2
    cases h2
    exact ⟨R1, .refl w, rv.mono e⟩
theorem ei_tup {ds : List PyData} (h : Ev c Ms As te (dp (.tuple ds))) : EvI c Ms As (iTup K te) ds := fun σ H R s Rk q =>
  h.bind s fun v H1 R1 g1 s1 a => by
    cases a with
    | tup a1 a2 => exact ⟨_, rfl, ⟨_, .inl (.inl (s1.wf.sub _ _ a1))⟩, q _ H1 R1 g1 (wk_tup a1 a2)⟩
theorem ei_list {ds : List PyData} (h : Ev c Ms As te (dp (.list ds))) : EvI c Ms As (iList K te) ds := fun σ H R s Rk q =>
  h.bind s fun v H1 R1 g1 s1 a => by
    cases a with
    | lst a1 a2 => exact ⟨_, rfl, ⟨_, .inl (.inl (s1.wf.sub _ _ a1))⟩, q _ H1 R1 g1 (wk_list a1 a2)⟩
/-- lo, lo + 1, .. -/
def rgD (lo : Int) (n : Nat) : List PyData := (List.range n).map fun i : Nat => PyData.int (lo + (i : Int))
theorem rgD_len (lo : Int) (n : Nat) : (rgD lo n).length = n := by simp [rgD]
theorem rgD_get {lo : Int} {n i : Nat} {d : PyData} (h : (rgD lo n)[i]? = some d) : i < n ∧ d = .int (lo + i) := by
  have hi : i < n := by have := (List.getElem?_eq_some_iff.mp h).1; rwa [rgD_len] at this
  refine ⟨hi, ?_⟩
  unfold rgD at h
  rw [List.getElem?_map, List.getElem?_range hi] at h
  exact (Option.some.inj h).symm
theorem rgD_zero (n : Nat) : rgD 0 n = natsD (List.range n) := by
  unfold rgD natsD
  congr 1
  funext i
  rw [Int.zero_add]
theorem wk_range {R : Hp} {lo : Int} {n : Nat} : Wk c (Itr lo n) R (rgD lo n) where
  goes := fun i H1 R1 hi w e => by rw [rgD_len] at hi; exact hi
  stops := fun H1 R1 w e => by rw [rgD_len]; exact Nat.le_refl n
  yields := fun i d H1 R1 x H2 hd w e y => by
    obtain ⟨rfl, rfl⟩ := y
    obtain ⟨_, rfl⟩ := rgD_get hd
    exact ⟨R1, .refl w, .int _⟩
theorem ei_r1 {n : Int} (h : Ev c Ms As te (dp (.int n))) (hn : -100000 ≤ n ∧ n ≤ 100000) : EvI c Ms As (iRng1 (tCons te tNil)) (rgD 0 n.toNat) := fun σ H R s Rk q =>
  h.bind s fun v H1 R1 g1 s1 a => by
    cases a
    exact ⟨n, rfl, by omega, by omega, q _ H1 R1 g1 wk_range⟩
theorem ei_r2 {m n : Int} (h : Ev c Ms As ta (dp (.int m))) (h' : Ev c Ms As tb (dp (.int n))) (hm : -100000 ≤ m ∧ m ≤ 100000) (hn : -100000 ≤ n ∧ n ≤ 100000) : EvI c Ms As (iRng2 (tCons ta (tCons tb tNil))) (rgD m (n - m).toNat) := fun σ H R s Rk q =>
  h.bind s fun v H1 R1 g1 s1 a => h'.bind s1 fun v' H2 R2 g2 s2 b => by
    cases a
    cases b
    exact ⟨m, n, rfl, ⟨by omega, by omega, by omega, by omega⟩, q _ H2 R2 (g1.trans s.wf g2) wk_range⟩
def rgDn (lo : Int) (n : Nat) : List PyData := (List.range n).map fun i : Nat => PyData.int (lo - (i : Int))
theorem rgDn_len (lo : Int) (n : Nat) : (rgDn lo n).length = n := by simp [rgDn]
theorem rgDn_get {lo : Int} {n i : Nat} {d : PyData} (h : (rgDn lo n)[i]? = some d) : i < n ∧ d = .int (lo - i) := by
  have hi : i < n := by have := (List.getElem?_eq_some_iff.mp h).1; rwa [rgDn_len] at this
  refine ⟨hi, ?_⟩
  unfold rgDn at h
  rw [List.getElem?_map, List.getElem?_range hi] at h
  exact (Option.some.inj h).symm
theorem ei_down {tc : TE} {m n : Int} (h : Ev c Ms As ta (dp (.int m))) (h' : Ev c Ms As tb (dp (.int n))) (h'' : Ev c Ms As tc (dp (.int (-1)))) (hm : -100000 ≤ m ∧ m ≤ 100000) (hn : -100000 ≤ n ∧ n ≤ 100000) : EvI c Ms As (iRng3 (tCons ta (tCons tb (tCons tc tNil)))) (rgDn m (m - n).toNat) := fun σ H R s Rk q =>
  h.bind s fun v H1 R1 g1 s1 a => h'.bind s1 fun v' H2 R2 g2 s2 b => h''.bind s2 fun v'' H3 R3 g3 s3 cc => by
    cases a
    cases b
    cases cc
    refine ⟨m, n, -1, (m - n).toNat, rfl, RgC.neg (by omega) (by omega) (by omega) (by omega), q _ H3 R3 ((g1.trans s.wf g2).trans s.wf g3) ⟨fun i H1 R1 hi w e => ?_, fun H1 R1 w e => ?_, fun i d H1 R1 x H2 hd w e y => ?_⟩⟩
    · rw [rgDn_len] at hi; exact hi
    · rw [rgDn_len]; exact Nat.le_refl (m - n).toNat
    · obtain ⟨rfl, rfl⟩ := y
      obtain ⟨_, rfl⟩ := rgDn_get hd
      refine ⟨R1, .refl w, ?_⟩
      have e : m + (i : Int) * (-1) = m - i := by omega
      rw [e]
      exact .int _
def enD (ds : List PyData) : List PyData := ds.zipIdx.map fun p => .tuple [.int (p.2 : Int), p.1]
theorem enD_len (ds : List PyData) : (enD ds).length = ds.length := by simp [enD]
theorem enD_get {ds : List PyData} {i : Nat} {d : PyData} (h : (enD ds)[i]? = some d) : ∃ x, ds[i]? = some x ∧ d = .tuple [.int (i : Int), x] := by
  unfold enD at h
  rw [List.getElem?_map, List.getElem?_zipIdx] at h
  cases hx : ds[i]? with
  | none => rw [hx] at h; simp at h
  | some x => rw [hx] at h; simp at h; exact ⟨x, rfl, h.symm⟩
theorem wk_enum {K : PySem.W.Frag} {R : Hp} {a : Addr} {vs : List V} {ds : List PyData} (ha : R a = some (.lst vs)) (r : Reps R vs ds) : Wk c (Ite K a) R (enD ds) where
  goes := fun i H1 R1 hi w e => by
    have h2 : H1 a = some (.lst vs) := w.sub _ _ (e _ _ ha)
    rw [enD_len] at hi
    have hv : i < vs.length := by rw [r.length]; exact hi
    exact ⟨vs, vs[i], .inl (.inl h2), List.getElem?_eq_getElem hv⟩
  stops := fun H1 R1 w e => ⟨vs, .inl (.inl (w.sub _ _ (e _ _ ha))), by rw [enD_len, r.length]; exact Nat.le_refl _⟩
  yields := fun i d H1 R1 x H2 hd w e y => by
    obtain ⟨T, z, rfl, hT, rfl, y⟩ := y
    obtain ⟨x, hx, rfl⟩ := enD_get hd
    obtain ⟨v, hv, rv⟩ := r.get hx
    have h2 := y vs (.inl (.inl (w.sub _ _ (e _ _ ha))))
    rw [hv] at h2
    cases h2
    exact ⟨_, .new w hT, .tup upd_same (.cons (.int _) (.cons ((rv.mono e).mono (same_new (w.none hT))) .nil))⟩
theorem ei_enum {ds : List PyData} (h : Ev c Ms As te (dp (.list ds))) : EvI c Ms As (iEnum K (tCons te tNil)) (enD ds) := fun σ H R s Rk q =>
  h.bind s fun v H1 R1 g1 s1 a => by
    cases a with
    | lst a1 a2 => exact ⟨_, _, rfl, .inl (.inl (s1.wf.sub _ _ a1)), q _ H1 R1 g1 (wk_enum a1 a2)⟩

/-! ### targets -/
def TgOk (g : TG) (d : PyData) (fA : AS → AS) (js : List Nat) : Prop := ∀ v σ H R As, Same R H → Slots As σ R → Rep R v d → ∀ Q : L2.St → Hp → Prop, (∀ σ', Slots (fA As) σ' R → (∀ vs : List Nat, (∀ j ∈ js, j ∈ vs) → L2.wipe σ' vs = L2.wipe σ vs) → Q σ' H) → g v σ H Q
theorem wipe_get (σ : L2.St) (i : Nat) : ∀ vs : List Nat, (L2.wipe σ vs)[i]? = if i ∈ vs then (σ[i]?).map (fun _ => none) else σ[i]?
  | [] => by simp [L2.wipe]
  | v :: vs => by
    unfold L2.wipe
    rw [List.getElem?_set]
    have ih := wipe_get σ i vs
    by_cases h : v = i
    · subst h
      simp only [if_true, List.mem_cons, true_or]
      by_cases hl : v < σ.length
      · rw [if_pos (by rw [wipe_length]; exact hl), List.getElem?_eq_getElem hl]; rfl
      · rw [if_neg (by rw [wipe_length]; exact hl), List.getElem?_eq_none (by omega)]; rfl
    · rw [if_neg h, ih]
      have h' : ¬ i = v := fun z => h z.symm
      simp only [List.mem_cons, h', false_or]
theorem wipe_set {σ : L2.St} {j : Nat} {x : Option V} {vs : List Nat} (h : j ∈ vs) : L2.wipe (σ.set j x) vs = L2.wipe σ vs := by
  refine List.ext_getElem? fun i => ?_
  rw [wipe_get, wipe_get, List.getElem?_set]
  by_cases e : j = i
  · subst e
    rw [if_pos h, if_pos h, if_pos rfl]
    split
    · rename_i hl
      rw [List.getElem?_eq_getElem hl]; rfl
    · rename_i hl
      rw [List.getElem?_eq_none (by omega)]
  · rw [if_neg e]
theorem wipe_wipe {σ : L2.St} {vs : List Nat} : L2.wipe (L2.wipe σ vs) vs = L2.wipe σ vs := by
  refine List.ext_getElem? fun i => ?_
  rw [wipe_get, wipe_get]
  split
  · cases σ[i]? <;> rfl
  · rfl
theorem tg_name {d : PyData} {j : Nat} : TgOk (gName j) d (fun As => As.set j (some (dp d))) [j] := fun v σ H R As e s r Q q =>
  q _ (s.set j r) fun vs h => wipe_set (h j (List.mem_singleton_self j))
theorem tg_pair {a b : PyData} {i j : Nat} : TgOk (gTup K 2 (gCons (gName i) (gCons (gName j) gNil))) (.tuple [a, b]) (fun As => (As.set i (some (dp a))).set j (some (dp b))) [i, j] := fun v σ H R As e s r Q q => by
  cases r with
  | tup r1 r2 =>
    cases r2 with
    | cons ra r2 =>
      cases r2 with
      | cons rb r2 =>
        cases r2
        refine ⟨_, _, rfl, .inl (.inl (e _ _ r1)), rfl, _, _, rfl, _, _, rfl, rfl, ?_⟩
        exact q _ ((s.set i ra).set j rb) fun vs h => by rw [wipe_set (h j (by simp)), wipe_set (h i (by simp))]

/-! ### comprehensions -/
theorem filter_take_succ {α : Type} {xs : List α} {i : Nat} {x : α} (h : xs[i]? = some x) (p : α → Bool) : (xs.take (i + 1)).filter p = (xs.take i).filter p ++ if p x = true then [x] else [] := by
  rw [List.take_succ, h, List.filter_append]
  congr 1
  show List.filter p [x] = _
  rw [List.filter_cons]
  split <;> rfl
theorem el_lc {α : Type} {wi : TI} {g : TG} {tt : TT} {vs js : List Nat} (xs : List α) (enc : α → PyData) (p : α → Bool) (f : α → PyData) {fA : α → AS → AS} (hi : EvI c Ms As wi (xs.map enc)) (hg : ∀ x ∈ xs, TgOk g (enc x) (fA x) js)
    (ht : ∀ x ∈ xs, EvT c Ms (fA x (wipeA As vs)) tt (p x)) (he : ∀ x ∈ xs, p x = true → Ev c Ms (fA x (wipeA As vs)) te (dp (f x))) (hl : xs.length ≤ 100000) (hj : ∀ j ∈ js, j ∈ vs) :
    EvL c Ms As (tLc wi g tt te vs) ((xs.filter p).map f) := fun σ H R s Q q =>
  hi σ H R s _ fun J H1 R1 g1 wk D hD => by
    have hDH : H D = none := g1.back hD
    have dA : D ∉ c.A0 := fun z => by obtain ⟨u, hu⟩ := c.alive g1.wf.j D z; rw [hD] at hu; cases hu
    have dM : D ∉ c.Mu := fun z => dA (c.sub D z)
    refine ⟨fun i m H' => m = xs.length - i ∧ i ≤ xs.length ∧ ∃ R' acc, Grow c H1 R1 H' R' ∧ R' D = none ∧ H' D = some (.lst acc) ∧ Reps R' acc (((xs.take i).filter p).map f), ⟨xs.length, by simp, Nat.zero_le _, R1, [], .lay g1.wf hD, g1.wf.none hD, upd_same, .nil⟩, ?_⟩
    rintro i m H' ⟨rfl, hle, R', acc, g2, hn, hd, ra⟩
    by_cases hlt : i < xs.length
    · refine .inr ⟨wk.goes i H' R' (by simpa using hlt) g2.wf g2.rr, fun H'' => i + 1 ≤ xs.length ∧ ∃ R' acc, Grow c H1 R1 H'' R' ∧ R' D = none ∧ H'' D = some (.lst acc) ∧ Reps R' acc (((xs.take (i + 1)).filter p).map f), fun H'' z => ⟨xs.length - (i + 1), by omega, rfl, z⟩, fun x H2 y => ?_⟩
      have hx : xs[i]? = some xs[i] := List.getElem?_eq_getElem hlt
      have mx : xs[i] ∈ xs := List.getElem_mem hlt
      obtain ⟨R2, g3, rx⟩ := wk.yields i (enc xs[i]) H' R' x H2 (by rw [List.getElem?_map, hx]; rfl) g2.wf g2.rr y
      have gg := g2.trans g1.wf g3
      have hn2 : R2 D = none := g3.keepNone hn hd dM
      have hd2 : H2 D = some (.lst acc) := g3.gr D _ dM hd
      have sl : Slots (wipeA As vs) (L2.wipe σ vs) R2 := (s.sl.wipe vs).mono (g1.rr.trans gg.rr)
      refine hg _ mx x _ H2 R2 _ gg.wf.sub sl rx _ fun σ2 s2 hw => ⟨(hw vs hj).trans wipe_wipe, ?_⟩
      have st : Sit c Ms (fA xs[i] (wipeA As vs)) σ2 H2 R2 := ⟨gg.wf, s.mu.grow (g1.trans s.wf gg), s2⟩
      refine ht _ mx σ2 H2 R2 st _ fun H3 R3 g4 => ?_
      have ga := gg.trans g1.wf g4
      have hd3 : H3 D = some (.lst acc) := g4.gr D _ dM hd2
      have hn3 : R3 D = none := g4.keepNone hn2 hd2 dM
      have ra3 : Reps R3 acc (((xs.take i).filter p).map f) := ra.mono (g3.rr.trans g4.rr)
      have e1 := filter_take_succ hx p
      cases hp : p xs[i] with
      | false =>
        refine ⟨hlt, R3, acc, ga, hn3, hd3, ?_⟩
        rw [hp] at e1
        have e2 : (xs.take (i + 1)).filter p = (xs.take i).filter p := by rw [e1]; simp
        rw [e2]
        exact ra3
      | true =>
        refine he _ mx hp σ2 H3 R3 (st.grow g4) _ fun v H4 R4 g5 rv => ?_
        have gb := ga.trans g1.wf g5
        have hd4 : H4 D = some (.lst acc) := g5.gr D _ dM hd3
        have hn4 : R4 D = none := g5.keepNone hn3 hd3 dM
        have ra4 := ra3.mono g5.rr
        refine ⟨acc, hd4, ?_, hlt, R4, acc ++ [v], ⟨fun x o hx h => ?_, gb.rr, gb.fr, ⟨fun x o h => ?_, gb.wf.av, c.loc (fun x hx => ?_) gb.wf.j⟩⟩, hn4, upd_same, ?_⟩
        · rw [ra4.length, List.length_map]
          have h1 := List.length_filter_le p (xs.take i)
          have h2 : (xs.take i).length ≤ i := by rw [List.length_take]; exact Nat.min_le_left _ _
          exact Nat.lt_of_lt_of_le (show ((xs.take i).filter p).length < 100001 by omega) (by decide)
        · rw [upd_ne (ne_of_none h hD)]; exact gb.gr x o hx h
        · rw [upd_ne (ne_of_none h hn4)]; exact gb.wf.sub x o h
        · rw [upd_ne (fun z : x = D => dA (by rw [← z]; exact hx))]
        · rw [hp] at e1
          have e2 : (xs.take (i + 1)).filter p = (xs.take i).filter p ++ [xs[i]] := by rw [e1]; simp
          rw [e2, List.map_append]
          exact ra4.append (.one rv)
    · have e : i = xs.length := by omega
      subst e
      refine .inl ⟨by have h := wk.stops H' R' g2.wf g2.rr; rw [List.length_map] at h; exact h, ?_⟩
      rw [List.take_length] at ra
      exact q D acc H' R' (g1.trans s.wf g2) hDH hn hd ra
/-- without a test -/
theorem el_map {α : Type} {wi : TI} {g : TG} {vs js : List Nat} (xs : List α) (enc : α → PyData) (f : α → PyData) {fA : α → AS → AS} (hi : EvI c Ms As wi (xs.map enc)) (hg : ∀ x ∈ xs, TgOk g (enc x) (fA x) js)
    (he : ∀ x ∈ xs, Ev c Ms (fA x (wipeA As vs)) te (dp (f x))) (hl : xs.length ≤ 100000) (hj : ∀ j ∈ js, j ∈ vs) : EvL c Ms As (tLc wi g tYes te vs) (xs.map f) :=
  (el_lc xs enc (fun _ => true) f hi hg (fun _ _ => et_yes) (fun x hx _ => he x hx) hl hj).to (by rw [List.filter_eq_self.mpr fun _ _ => rfl])
end

/-! ### calls -/
/-- the promise of a pure def, from its arguments' assertions -/
def Pu (Ms : MS) (as : List Asr) (r : Asr) (vs : List V) (H : Hp) (Q : VK) : Prop := ∃ R, Wf pu H R ∧ Muts pu Ms H R ∧ HoldsAll R vs as ∧ ∀ v H' R', Grow pu H R H' R' → r.h R' v → Q v H'
theorem Wf.pu {c : Kx} {H R : Hp} (w : Wf c H R) : Wf Rb.pu H R := ⟨w.sub, fun _ h => (List.not_mem_nil h).elim, trivial⟩
theorem Muts.pu {c : Kx} {Ms : MS} {H R : Hp} (m : Muts c Ms H R) : Muts Rb.pu Ms H R := ⟨m.nd, fun _ _ h => (List.not_mem_nil h).elim, m.hid, m.ok⟩
section
variable {c : Kx} {Ms : MS} {As : AS} {ta tb te : TE} {A B : Asr} {K : PySem.W.Frag} {d e : PyData} {t u : TT}
theorem ev_call {sp : Sp} {tA : TA} {as : List Asr} {r : Asr} {E : XK} (h : EvA c Ms As tA as) (hs : ∀ vs H Q, Pu Ms as r vs H Q → sp vs H Q E) : Ev c Ms As (tCall sp [] E tA) r := fun σ H R s Q q =>
  h σ H R s _ fun vs H1 R1 g a => by
    show sp (vs ++ []) H1 Q E
    rw [List.append_nil]
    exact hs vs H1 Q ⟨R1, g.wf.pu, (s.mu.grow g).pu, a, fun v H2 R2 g2 rv => q v H2 R2 (g.trans s.wf (.of_pure g.wf g2)) rv⟩
end
end Rb
end
section
set_option Elab.async false
set_option linter.all false
set_option maxRecDepth 100000
set_option maxHeartbeats 4000000
namespace Rb
open PySem L2

/-- what follows, from what is known -/
def Go (c : Kx) (H0 R0 : Hp) (Ms : MS) (As : AS) (C : L2.St → Hp → Prop) : Prop := ∀ σ H R, Grow c H0 R0 H R → Sit c Ms As σ H R → C σ H
def Fin (c : Kx) (H0 R0 : Hp) (r : Asr) (rt : VK) : Prop := ∀ v H' R', Grow c H0 R0 H' R' → r.h R' v → rt v H'
/-- a new object that is one's own -/
def EvN (c : Kx) (Ms : MS) (As : AS) (te : TE) (m : Mc) : Prop := ∀ σ H R, Sit c Ms As σ H R → ∀ Q : VK, (∀ p H' R', Grow c H R H' R' → H p = none → R' p = none → Holds R' H' p m → Q (.ref p) H') → te σ H Q
/-- the states at a loop's turn -/
def Inv (c : Kx) (H0 R0 : Hp) (I : MS → AS → Prop) : L2.St → Hp → Prop := fun σ H => ∃ R Ms As, I Ms As ∧ Grow c H0 R0 H R ∧ Sit c Ms As σ H R
section
variable {c : Kx} {H0 R0 : Hp} {Ms : MS} {As : AS} {ta tb te : TE} {A B : Asr} {K : PySem.W.Frag} {d e : PyData} {t u : TT} {D : Ends} {tu tw : TS} {C : L2.St → Hp → Prop}
theorem EvL.n {ds : List PyData} (h : EvL c Ms As te ds) : EvN c Ms As te (.lst ds) := fun σ H R s Q q => h σ H R s Q fun p vs H' R' g h0 h1 h2 h3 => q p H' R' g h0 h1 ⟨vs, h2, h3⟩
theorem en_dK : EvN c Ms As tDNewK (.dK []) := fun σ H R s Q q p hp => q p _ R (.lay s.wf hp) hp (s.wf.none hp) ⟨[], upd_same, .nil⟩
theorem en_dT : EvN c Ms As tDNewT (.dT []) := fun σ H R s Q q p hp => q p _ R (.lay s.wf hp) hp (s.wf.none hp) ⟨[], upd_same, .nil⟩
theorem Go.le {Bs : AS} (h : Go c H0 R0 Ms Bs C) (l : LeAs As Bs) : Go c H0 R0 Ms As C := fun σ H R g s => h σ H R g ⟨s.wf, s.mu, s.sl.le l⟩
theorem go_inv {I : MS → AS → Prop} (h : I Ms As) : Go c H0 R0 Ms As (Inv c H0 R0 I) := fun σ H R g s => ⟨R, Ms, As, h, g, s⟩
theorem Inv.go {I : MS → AS → Prop} (h : ∀ Ms As, I Ms As → Go c H0 R0 Ms As C) {σ : L2.St} {H : Hp} (i : Inv c H0 R0 I σ H) : C σ H := by
  obtain ⟨R, Ms, As, hi, g, s⟩ := i
  exact h Ms As hi σ H R g s
theorem go_seq {t u : TS} (h : Go c H0 R0 Ms As (t { D with nx := u D })) : Go c H0 R0 Ms As (tSeq t u D) := h
theorem go_next (h : Go c H0 R0 Ms As D.nx) : Go c H0 R0 Ms As (tNext D) := h
theorem go_cut {t u : TS} (I : MS → AS → Prop) (h : Go c H0 R0 Ms As (t { D with nx := Inv c H0 R0 I })) (k : ∀ Ms As, I Ms As → Go c H0 R0 Ms As (u D)) : Go c H0 R0 Ms As (C8.tCut t u D) := fun σ H R g s =>
  ⟨Inv c H0 R0 I, h σ H R g s, fun σ' H' i => i.go k⟩
theorem go_asg {i : Nat} (h : Ev c Ms As te A) (k : Go c H0 R0 Ms (As.set i (some A)) D.nx) : Go c H0 R0 Ms As (tAsg te (gName i) D) := fun σ H R g s =>
  h.bind s fun v H' R' g' s' a => k _ H' R' (g.trans' g') ⟨s'.wf, s'.mu, s'.sl.set i a⟩
/-- an assertion with a letter -/
def exA {ι : Type} (P : ι → Prop) (F : ι → Asr) : Asr := ⟨fun G v => ∃ i, P i ∧ (F i).h G v, fun e ⟨i, h1, h2⟩ => ⟨i, h1, (F i).mono e h2⟩⟩
theorem go_asgX {ι : Type} {P : ι → Prop} {F : ι → Asr} {i : Nat} (h : Ev c Ms As te (exA P F)) (k : ∀ x, P x → Go c H0 R0 Ms (As.set i (some (F x))) D.nx) : Go c H0 R0 Ms As (tAsg te (gName i) D) := fun σ H R g s =>
  h.bind s fun v H' R' g' s' a => by
    obtain ⟨x, hx, a⟩ := a
    exact k x hx _ H' R' (g.trans' g') ⟨s'.wf, s'.mu, s'.sl.set i a⟩
theorem Sit.own {σ : L2.St} {H R H' R' : Hp} {p : Addr} {m : Mc} (s : Sit c Ms As σ H R) (g : Grow c H R H' R') (h0 : H p = none) (hn : R' p = none) (hm : Holds R' H' p m) : Sit c ((p, m) :: Ms) As σ H' R' := by
  have s' := s.grow g
  refine ⟨s'.wf, ⟨?_, fun e he => ?_, fun e he => ?_, fun e he => ?_⟩, s'.sl⟩
  · rw [List.map_cons, List.nodup_cons]
    refine ⟨fun hp => ?_, s'.mu.nd⟩
    obtain ⟨e, he, rfl⟩ := List.mem_map.mp hp
    obtain ⟨o, ho⟩ := (s.mu.ok e he).alive
    rw [h0] at ho; cases ho
  · rcases List.mem_cons.mp he with rfl | he
    · exact fun z => by obtain ⟨o, ho⟩ := c.alive s.wf.j p z; rw [h0] at ho; cases ho
    · exact s'.mu.off e he
  · rcases List.mem_cons.mp he with rfl | he
    · exact hn
    · exact s'.mu.hid e he
  · rcases List.mem_cons.mp he with rfl | he
    · exact hm
    · exact s'.mu.ok e he
theorem go_own {i : Nat} {m : Mc} (h : EvN c Ms As te m) (k : ∀ p, H0 p = none → Go c H0 R0 ((p, m) :: Ms) (As.set i (some (valA (.ref p)))) D.nx) : Go c H0 R0 Ms As (tAsg te (gName i) D) := fun σ H R g s =>
  h σ H R s _ fun p H' R' g' h0 hn hm => by
    have s' := s.own g' h0 hn hm
    exact k p (g.back h0) _ H' R' (g.trans' g') ⟨s'.wf, s'.mu, s'.sl.set i rfl⟩
/-- two names at once -/
theorem go_par {i j : Nat} (h : EvA c Ms As (tCons ta (tCons tb tNil)) [A, B]) (k : Go c H0 R0 Ms ((As.set i (some A)).set j (some B)) D.nx) : Go c H0 R0 Ms As (tPar i j (tCons ta (tCons tb tNil)) D) := fun σ H R g s =>
  h σ H R s _ fun vs H' R' g' a => by
    cases a with
    | cons a1 a2 =>
      cases a2 with
      | cons a2 a3 =>
        cases a3
        have s' := s.grow g'
        exact ⟨_, _, rfl, k _ H' R' (g.trans' g') ⟨s'.wf, s'.mu, (s'.sl.set i a1).set j a2⟩⟩
theorem go_parNA {i j : Nat} {m : Mc} (h : EvN c Ms As ta m) (h' : ∀ p, Ev c ((p, m) :: Ms) As tb A) (k : ∀ p, H0 p = none → Go c H0 R0 ((p, m) :: Ms) ((As.set i (some (valA (.ref p)))).set j (some A)) D.nx) : Go c H0 R0 Ms As (tPar i j (tCons ta (tCons tb tNil)) D) := fun σ H R g s =>
  h σ H R s _ fun p H' R' g' h0 hn hm => by
    have s' := s.own g' h0 hn hm
    exact (h' p).bind s' fun v H2 R2 g2 s2 a => ⟨_, _, rfl, k p (g.back h0) _ H2 R2 ((g.trans' g').trans' g2) ⟨s2.wf, s2.mu, (s2.sl.set i rfl).set j a⟩⟩
theorem go_parAN {i j : Nat} {m : Mc} (h : Ev c Ms As ta A) (h' : EvN c Ms As tb m) (k : ∀ p, H0 p = none → Go c H0 R0 ((p, m) :: Ms) ((As.set i (some A)).set j (some (valA (.ref p)))) D.nx) : Go c H0 R0 Ms As (tPar i j (tCons ta (tCons tb tNil)) D) := fun σ H R g s =>
  h.bind s fun v H1 R1 g1 s1 a => h' σ H1 R1 s1 _ fun p H' R' g' h0 hn hm => by
    have s' := s1.own g' h0 hn hm
    exact ⟨_, _, rfl, k p (g.back (g1.back h0)) _ H' R' ((g.trans' g1).trans' g') ⟨s'.wf, s'.mu, (s'.sl.set i (A.mono g'.rr a)).set j rfl⟩⟩
theorem go_parNN {i j : Nat} {m n : Mc} (h : EvN c Ms As ta m) (h' : ∀ p, EvN c ((p, m) :: Ms) As tb n) (k : ∀ p q, H0 p = none → H0 q = none → Go c H0 R0 ((q, n) :: (p, m) :: Ms) ((As.set i (some (valA (.ref p)))).set j (some (valA (.ref q)))) D.nx) : Go c H0 R0 Ms As (tPar i j (tCons ta (tCons tb tNil)) D) := fun σ H R g s =>
  h σ H R s _ fun p H1 R1 g1 h0 hn hm => by
    have s1 := s.own g1 h0 hn hm
    exact h' p σ H1 R1 s1 _ fun q H2 R2 g2 h02 hn2 hm2 => by
      have s2 := s1.own g2 h02 hn2 hm2
      exact ⟨_, _, rfl, k p q (g.back h0) (g.back (g1.back h02)) _ H2 R2 ((g.trans' g1).trans' g2) ⟨s2.wf, s2.mu, (s2.sl.set i rfl).set j rfl⟩⟩
theorem go_ret {r : Asr} (f : Fin c H0 R0 r D.rt) (h : Ev c Ms As te r) : Go c H0 R0 Ms As (tRet te D) := fun σ H R g s => h σ H R s _ fun v H' R' g' a => f v H' R' (g.trans' g') a
theorem go_if {b : Bool} (h : EvT c Ms As t b) (h1 : b = true → Go c H0 R0 Ms As (tu D)) (h2 : b = false → Go c H0 R0 Ms As (tw D)) : Go c H0 R0 Ms As (tIfS t tu tw D) := fun σ H R g s =>
  h σ H R s _ fun H' R' g' => by
    cases b with
    | true => exact h1 rfl σ H' R' (g.trans' g') (s.grow g')
    | false => exact h2 rfl σ H' R' (g.trans' g') (s.grow g')
theorem go_ifT {b : Bool} (h : EvT c Ms As t b) (hb : b = true) (h1 : Go c H0 R0 Ms As (tu D)) : Go c H0 R0 Ms As (tIfS t tu tw D) := go_if h (fun _ => h1) fun z => by rw [hb] at z; cases z
theorem go_ifF {b : Bool} (h : EvT c Ms As t b) (hb : b = false) (h1 : Go c H0 R0 Ms As (tw D)) : Go c H0 R0 Ms As (tIfS t tu tw D) := go_if h (fun z => by rw [hb] at z; cases z) fun _ => h1
theorem ev_ifT {b : Bool} (h : EvT c Ms As t b) (hb : b = true) (h1 : Ev c Ms As ta A) : Ev c Ms As (tIf t ta tb) A := ev_if h (fun _ => h1) fun z => by rw [hb] at z; cases z
theorem ev_ifF {b : Bool} (h : EvT c Ms As t b) (hb : b = false) (h1 : Ev c Ms As tb A) : Ev c Ms As (tIf t ta tb) A := ev_if h (fun z => by rw [hb] at z; cases z) fun _ => h1
theorem ev_tup0 : Ev c Ms As (tTup tNil) (dp (.tuple [])) := ev_tup (ds := []) ea_nil
theorem ev_tup1 (h : Ev c Ms As ta (dp d)) : Ev c Ms As (tTup (tCons ta tNil)) (dp (.tuple [d])) := ev_tup (ds := [d]) (ea_cons h ea_nil)
theorem ev_tup2 (h : Ev c Ms As ta (dp d)) (h' : Ev c Ms As tb (dp e)) : Ev c Ms As (tTup (tCons ta (tCons tb tNil))) (dp (.tuple [d, e])) := ev_tup (ds := [d, e]) (ea_cons h (ea_cons h' ea_nil))
theorem ev_tup3 {tc : TE} {f : PyData} (h : Ev c Ms As ta (dp d)) (h' : Ev c Ms As tb (dp e)) (h'' : Ev c Ms As tc (dp f)) : Ev c Ms As (tTup (tCons ta (tCons tb (tCons tc tNil)))) (dp (.tuple [d, e, f])) := ev_tup (ds := [d, e, f]) (ea_cons h (ea_cons h' (ea_cons h'' ea_nil)))
theorem ev_tup4 {tc td : TE} {f g : PyData} (h : Ev c Ms As ta (dp d)) (h' : Ev c Ms As tb (dp e)) (h'' : Ev c Ms As tc (dp f)) (h3 : Ev c Ms As td (dp g)) : Ev c Ms As (tTup (tCons ta (tCons tb (tCons tc (tCons td tNil))))) (dp (.tuple [d, e, f, g])) := ev_tup (ds := [d, e, f, g]) (ea_cons h (ea_cons h' (ea_cons h'' (ea_cons h3 ea_nil))))
theorem el_lst0 : EvL c Ms As (tLst tNil) [] := el_lst (ds := []) ea_nil
theorem el_lst1 (h : Ev c Ms As ta (dp d)) : EvL c Ms As (tLst (tCons ta tNil)) [d] := el_lst (ds := [d]) (ea_cons h ea_nil)
theorem el_lst2 (h : Ev c Ms As ta (dp d)) (h' : Ev c Ms As tb (dp e)) : EvL c Ms As (tLst (tCons ta (tCons tb tNil))) [d, e] := el_lst (ds := [d, e]) (ea_cons h (ea_cons h' ea_nil))
theorem ev_ixTn {ds : List PyData} (n : Nat) (ha : Ev c Ms As ta (dp (.tuple ds))) (hb : Ev c Ms As tb (dp (.int (n : Int)))) (hi : ds[n]? = some d) : Ev c Ms As (tOp (rIxT K) ta tb) (dp d) := ev_ixT ha hb (atI_nat hi)
theorem ev_ixLn {Ms' : MS} {ds : List PyData} (n : Nat) (ha : Ev c Ms As ta (lsA Ms' ds)) (hb : Ev c Ms As tb (dp (.int (n : Int)))) (hi : ds[n]? = some d) (hs : Ms' ⊆ Ms := by first | exact List.nil_subset _ | exact List.Subset.refl _ | simp) : Ev c Ms As (tOp (rIxL K) ta tb) (dp d) := ev_ixL ha hb (atI_nat hi) hs
theorem go_drop (h : Ev c Ms As te A) (k : Go c H0 R0 Ms As D.nx) : Go c H0 R0 Ms As (tDrop te D) := fun σ H R g s => h.bind s fun v H' R' g' s' _ => k σ H' R' (g.trans' g') s'

/-! ### one's own lists and dicts are changed -/
theorem nodup_at {l : MS} (h : (l.map Prod.fst).Nodup) {i j : Nat} {p : Addr} {m m' : Mc} (a : l[i]? = some (p, m)) (b : l[j]? = some (p, m')) : i = j := by
  obtain ⟨h1, e1⟩ := List.getElem?_eq_some_iff.mp a
  obtain ⟨h2, e2⟩ := List.getElem?_eq_some_iff.mp b
  have g1 : (l.map Prod.fst)[i]'(by simpa using h1) = p := by simp [e1]
  have g2 : (l.map Prod.fst)[j]'(by simpa using h2) = p := by simp [e2]
  exact (List.getElem_inj h).mp (g1.trans g2.symm)
theorem mset_fst {l : MS} {k : Nat} {p : Addr} {m m' : Mc} (h : l[k]? = some (p, m)) : (l.set k (p, m')).map Prod.fst = l.map Prod.fst := by
  refine List.ext_getElem? fun i => ?_
  rw [List.getElem?_map, List.getElem?_map, List.getElem?_set]
  by_cases e : k = i
  · subst e
    rw [if_pos rfl, h]
    split
    · rfl
    · rename_i hl
      exact absurd (List.getElem?_eq_some_iff.mp h).1 hl
  · rw [if_neg e]
theorem Sit.put {σ : L2.St} {H R : Hp} {p : Addr} {m m' : Mc} {k : Nat} {o : HO} (s : Sit c Ms As σ H R) (hk : Ms[k]? = some (p, m)) (hm : ∀ H', H' p = some o → Holds R H' p m') : Sit c (Ms.set k (p, m')) As σ (upd H p o) R := by
  have hmem : (p, m) ∈ Ms := List.mem_of_getElem? hk
  have hR : R p = none := s.mu.hid _ hmem
  have hA : p ∉ c.A0 := s.mu.off _ hmem
  refine ⟨⟨fun x u q => ?_, s.wf.av, c.loc (fun x hx => upd_ne fun z : x = p => hA (by rw [← z]; exact hx)) s.wf.j⟩, ⟨by rw [mset_fst hk]; exact s.mu.nd, fun e he => ?_, fun e he => ?_, fun e he => ?_⟩, s.sl⟩
  · rw [upd_ne (ne_of_none q hR)]; exact s.wf.sub x u q
  all_goals
    obtain ⟨i, hi⟩ := List.mem_iff_getElem?.mp he
    rw [List.getElem?_set] at hi
    by_cases e1 : k = i
    · subst e1
      rw [if_pos rfl] at hi
      split at hi
      · cases hi
        first | exact hA | exact hR | exact hm _ upd_same
      · cases hi
    · rw [if_neg e1] at hi
      have he' := List.mem_of_getElem? hi
      first
        | exact s.mu.off _ he'
        | exact s.mu.hid _ he'
        | (refine (s.mu.ok _ he').mono (Same.refl R) fun o ho => ?_
           rw [upd_ne (fun z => e1 (nodup_at s.mu.nd hk (m' := e.2) (by rw [hi, ← z])))]
           exact ho)
theorem Grow.put {H R : Hp} {p : Addr} {o : HO} (g : Grow c H0 R0 H R) (h0 : H0 p = none) (w' : Wf c (upd H p o) R) : Grow c H0 R0 (upd H p o) R :=
  ⟨fun x u hx q => by rw [upd_ne (ne_of_none q h0)]; exact g.gr x u hx q, g.rr, g.fr, w'⟩
theorem go_put {σ : L2.St} {H R : Hp} {p : Addr} {m m' : Mc} {k : Nat} {o : HO} (g : Grow c H0 R0 H R) (s : Sit c Ms As σ H R) (hk : Ms[k]? = some (p, m)) (h0 : H0 p = none) (hm : ∀ H', H' p = some o → Holds R H' p m') (h : Go c H0 R0 (Ms.set k (p, m')) As C) : C σ (upd H p o) := by
  have s' := s.put hk hm
  exact h σ _ R (g.put h0 s'.wf) s'
/-- xs.append(e) -/
theorem go_app {p : Addr} {ds : List PyData} (k : Nat) (hx : Ev c Ms As ta (valA (.ref p))) (he : Ev c Ms As te (dp d)) (hk : Ms[k]? = some (p, .lst ds)) (h0 : H0 p = none) (hl : ds.length < 100000) (h : Go c H0 R0 (Ms.set k (p, .lst (ds ++ [d]))) As D.nx) :
    Go c H0 R0 Ms As (tDrop (tBM K "list" rAppend ta (tCons te tNil)) D) := fun σ H R g s =>
  hx.bind s fun x H1 R1 g1 s1 a => by
    cases a
    obtain ⟨vs, hv, rv⟩ := s1.mu.ok _ (List.mem_of_getElem? hk)
    refine ⟨.inl ⟨rfl, vs, .inl (.inl hv)⟩, he.bind s1 fun y H2 R2 g2 s2 b => ?_⟩
    obtain ⟨us, hu, ru⟩ := s2.mu.ok _ (List.mem_of_getElem? hk)
    exact ⟨p, us, y, rfl, rfl, hu, by rw [ru.length]; exact Nat.lt_trans hl (by decide), go_put ((g.trans' g1).trans' g2) s2 hk h0 (m' := .lst (ds ++ [d])) (fun H' hH => ⟨_, hH, ru.append (.one b)⟩) h⟩
theorem seqIx_nat {n i : Nat} (h : i < n) : seqIndex? (i : Int) n = some i := by
  unfold seqIndex?
  simp
  omega
/-- xs[i] = e -/
theorem go_setL {p : Addr} {ds : List PyData} {i : Nat} (k : Nat) (he : Ev c Ms As te (dp d)) (hx : Ev c Ms As ta (valA (.ref p))) (hi : Ev c Ms As tb (dp (.int (i : Int)))) (hk : Ms[k]? = some (p, .lst ds)) (h0 : H0 p = none) (hl : i < ds.length) (h : Go c H0 R0 (Ms.set k (p, .lst (ds.set i d))) As D.nx) :
    Go c H0 R0 Ms As (tAsg te (gSub ta tb rSetL) D) := fun σ H R g s =>
  he.bind s fun v H1 R1 g1 s1 a => hx.bind s1 fun x H2 R2 g2 s2 b => hi.bind s2 fun y H3 R3 g3 s3 cc => by
    cases b; cases cc
    obtain ⟨us, hu, ru⟩ := s3.mu.ok _ (List.mem_of_getElem? hk)
    refine ⟨p, us, (i : Int), i, rfl, rfl, hu, ?_, go_put (((g.trans' g1).trans' g2).trans' g3) s3 hk h0 (m' := .lst (ds.set i d)) (fun H' hH => ⟨_, hH, ru.set (Rep.mono (g2.rr.trans g3.rr) _ _ a) i⟩) h⟩
    have hl' : i < us.length := by rw [ru.length]; exact hl
    unfold ixN
    rw [if_pos (by omega), if_pos (by omega)]
    simp
/-- d[k] = e, k an int -/
theorem putK_len' {κ : Type} [DecidableEq κ] (es : List (κ × V)) (k : κ) (v : V) : (putK es k v).length ≤ es.length + 1 := by
  unfold putK
  split
  · rw [List.length_map]; omega
  · simp
theorem paired_len {α β : Type} {F : α → β → Prop} : ∀ {l : List α} {m : List β}, Paired F l m → l.length = m.length
  | _, _, .nil => rfl
  | _, _, .cons _ t => by simp [paired_len t]
theorem go_dputK {p : Addr} {kvs : List (Int × PyData)} {i : Int} (k : Nat) (he : Ev c Ms As te (dp d)) (hx : Ev c Ms As ta (valA (.ref p))) (hi : Ev c Ms As tb (dp (.int i))) (hk : Ms[k]? = some (p, .dK kvs)) (h0 : H0 p = none) (hl : kvs.length < 100000) (h : Go c H0 R0 (Ms.set k (p, .dK (setK kvs i d))) As D.nx) :
    Go c H0 R0 Ms As (sDPut ta tb te D) := fun σ H R g s =>
  he.bind s fun v H1 R1 g1 s1 a => hx.bind s1 fun x H2 R2 g2 s2 b => hi.bind s2 fun y H3 R3 g3 s3 cc => by
    cases b; cases cc
    obtain ⟨es, hu, ru⟩ := s3.mu.ok _ (List.mem_of_getElem? hk)
    exact ⟨p, _, rfl, DPut.k (k := Sum.inl i) hu (by rw [paired_len ru]; exact Nat.lt_trans hl (by decide)), go_put (((g.trans' g1).trans' g2).trans' g3) s3 hk h0 (m' := .dK (setK kvs i d)) (fun H' hH => ⟨_, hH, pair_put inl_inj i (P := fun v d => Rep R3 v d) (Rep.mono (g2.rr.trans g3.rr) _ _ a) ru⟩) h⟩
theorem go_dputT {p : Addr} {kvs : List (List Int × PyData)} {i : List Int} (k : Nat) (he : Ev c Ms As te (dp d)) (hx : Ev c Ms As ta (valA (.ref p))) (hi : Ev c Ms As tb (dp (.tuple (intsD i)))) (hk : Ms[k]? = some (p, .dT kvs)) (h0 : H0 p = none) (hl : kvs.length < 100000) (h : Go c H0 R0 (Ms.set k (p, .dT (setK kvs i d))) As D.nx) :
    Go c H0 R0 Ms As (sDPut ta tb te D) := fun σ H R g s =>
  he.bind s fun v H1 R1 g1 s1 a => hx.bind s1 fun x H2 R2 g2 s2 b => hi.bind s2 fun y H3 R3 g3 s3 cc => by
    cases b
    cases cc with
    | tup c1 c2 =>
      have e := c2.toInts
      subst e
      obtain ⟨es, hu, ru⟩ := s3.mu.ok _ (List.mem_of_getElem? hk)
      exact ⟨p, _, rfl, DPut.t (k := i.map .inl) hu (by rw [kV_ints]; exact s3.wf.sub _ _ c1) (by rw [paired_len ru]; exact Nat.lt_trans hl (by decide)), go_put (((g.trans' g1).trans' g2).trans' g3) s3 hk h0 (m' := .dT (setK kvs i d)) (fun H' hH => ⟨_, hH, pair_put inls_inj i (P := fun v d => Rep R3 v d) (Rep.mono (g2.rr.trans g3.rr) _ _ a) ru⟩) h⟩
/-- one's own list is frozen: the first of Ms -/
def frz : Mc → Asr
  | .lst ds => dp (.list ds)
  | .raw vs => anyA
  | .dK kvs => dicK kvs
  | .dKr _ => anyA
  | .dT kvs => dicT kvs
theorem frz.mk {R H : Hp} {p : Addr} {m : Mc} (h : Holds R H p m) (hn : R p = none) (o : HO) (ho : H p = some o) : (frz m).h (upd R p o) (.ref p) := by
  cases m with
  | lst ds => obtain ⟨vs, h, r⟩ := h; rw [ho] at h; cases h; exact .lst upd_same (r.mono (same_new hn))
  | raw vs => trivial
  | dK kvs => obtain ⟨vs, h, r⟩ := h; rw [ho] at h; cases h; exact ⟨p, vs, rfl, upd_same, r.mono (same_new hn)⟩
  | dKr es => trivial
  | dT kvs => obtain ⟨vs, h, r⟩ := h; rw [ho] at h; cases h; exact ⟨p, vs, rfl, upd_same, r.mono (same_new hn)⟩
theorem go_frz {p : Addr} {m : Mc} {i : Nat} (hi : As[i]? = some (some (valA (.ref p)))) (h0 : H0 p = none) (h : Go c H0 R0 Ms (As.set i (some (frz m))) C) : Go c H0 R0 ((p, m) :: Ms) As C := fun σ H R g s => by
  have hm := s.mu.ok (p, m) List.mem_cons_self
  have hn : R p = none := s.mu.hid (p, m) List.mem_cons_self
  have hA : p ∉ c.A0 := s.mu.off (p, m) List.mem_cons_self
  obtain ⟨o, ho⟩ := hm.alive
  have rr : Same R (upd R p o) := same_new hn
  have nd : p ∉ Ms.map Prod.fst := (List.nodup_cons.mp (show (p :: Ms.map Prod.fst).Nodup from s.mu.nd)).1
  have wf' : Wf c H (upd R p o) := ⟨fun x u q => by
    by_cases e : x = p
    · subst e; rw [upd_same] at q; rw [ho]; exact q
    · rw [upd_ne e] at q; exact s.wf.sub x u q, fun x hx => by rw [upd_ne (fun z : x = p => hA (by rw [← z]; exact hx))]; exact s.wf.av x hx, s.wf.j⟩
  refine h σ H (upd R p o) ⟨g.gr, g.rr.trans rr, fun x u q => ?_, wf'⟩ ⟨wf', ⟨(List.nodup_cons.mp (show (p :: Ms.map Prod.fst).Nodup from s.mu.nd)).2, fun e he => s.mu.off e (List.mem_cons_of_mem _ he), fun e he => ?_, fun e he => (s.mu.ok e (List.mem_cons_of_mem _ he)).mono rr fun _ z => z⟩, ?_⟩
  · by_cases e : x = p
    · subst e; exact .inr (.inl h0)
    · rw [upd_ne e] at q; exact g.fr x u q
  · rw [upd_ne (fun z : e.1 = p => nd (by rw [← z]; exact List.mem_map_of_mem he))]
    exact s.mu.hid e (List.mem_cons_of_mem _ he)
  · obtain ⟨v, hv, e⟩ := s.sl.at_ i _ hi
    have e' : v = .ref p := e
    subst e'
    have q := (s.sl.mono rr).set i (frz.mk hm hn o ho)
    have e2 : σ.set i (some (.ref p)) = σ := by
      refine List.ext_getElem? fun j => ?_
      rw [List.getElem?_set]
      by_cases z : i = j
      · subst z
        rw [if_pos rfl, hv]
        rw [if_pos (List.getElem?_eq_some_iff.mp hv).1]
      · rw [if_neg z]
    rw [e2] at q
    exact q
/-- the first of Ms is forgotten -/
theorem go_dropM {p : Addr} {m : Mc} (h : Go c H0 R0 Ms As C) : Go c H0 R0 ((p, m) :: Ms) As C := fun σ H R g s =>
  h σ H R g ⟨s.wf, ⟨(List.nodup_cons.mp (show (p :: Ms.map Prod.fst).Nodup from s.mu.nd)).2, fun e he => s.mu.off e (List.mem_cons_of_mem _ he), fun e he => s.mu.hid e (List.mem_cons_of_mem _ he), fun e he => s.mu.ok e (List.mem_cons_of_mem _ he)⟩, s.sl⟩

/-! ### loops -/
/-- the ghost heap at a loop's entry, as a new base -/
structure Bs (H0 R0 Rb : Hp) : Prop where
  rr : Same R0 Rb
  fr : ∀ x o, Rb x = some o → R0 x = some o ∨ Fre H0 x o
theorem Grow.base {H R Rb : Hp} (g : Grow c H0 Rb H R) (b : Bs H0 R0 Rb) : Grow c H0 R0 H R :=
  ⟨g.gr, b.rr.trans g.rr, fun x o h => (g.fr x o h).elim (b.fr x o) .inr, g.wf⟩
theorem Go.base {Rb : Hp} (h : Go c H0 R0 Ms As C) (b : Bs H0 R0 Rb) : Go c H0 Rb Ms As C := fun σ H R g s => h σ H R (g.base b) s
theorem Fin.base {r : Asr} {rt : VK} {Rb : Hp} (h : Fin c H0 R0 r rt) (b : Bs H0 R0 Rb) : Fin c H0 Rb r rt := fun v H' R' g a => h v H' R' (g.base b) a
theorem go_forG {wi : TI} {g : TG} {js : List Nat} {ds : List PyData} (fA : PyData → AS → AS) (hi : EvI c Ms As wi ds) (hg : ∀ d ∈ ds, TgOk g d (fA d) js) (I : Nat → MS → AS → Prop) (h0 : I 0 Ms As)
    (hs : ∀ Rb, Bs H0 R0 Rb → ∀ i d Ms As, ds[i]? = some d → I i Ms As → Go c H0 Rb Ms (fA d As) (tu { D with nx := Inv c H0 Rb (I (i + 1)), ct := Inv c H0 Rb (I (i + 1)), bk := D.nx }))
    (hd : ∀ Ms As, I ds.length Ms As → Go c H0 R0 Ms As D.nx) : Go c H0 R0 Ms As (tFor wi g tu D) := fun σ H R gw s =>
  hi σ H R s _ fun J H1 R1 g1 wk => by
    have gs := gw.trans' g1
    have bs : Bs H0 R0 R1 := ⟨gs.rr, gs.fr⟩
    have gb : Grow c H0 R1 H1 R1 := ⟨gs.gr, Same.refl R1, fun _ _ h => .inl h, gs.wf⟩
    refine ⟨fun i m σ' H' => m = ds.length - i ∧ i ≤ ds.length ∧ Inv c H0 R1 (I i) σ' H', ⟨ds.length, by simp, Nat.zero_le _, R1, Ms, As, h0, gb, s.grow g1⟩, ?_⟩
    rintro i m σ' H' ⟨rfl, hle, R', Ms', As', hI, g', s'⟩
    by_cases hlt : i < ds.length
    · refine .inr ⟨wk.goes i H' R' hlt s'.wf g'.rr, Inv c H0 R1 (I (i + 1)), fun σ2 H2 z => ⟨ds.length - (i + 1), by omega, rfl, hlt, z⟩, fun x H2 y => ?_⟩
      have hx : ds[i]? = some ds[i] := List.getElem?_eq_getElem hlt
      obtain ⟨R2, g2, rx⟩ := wk.yields i _ H' R' x H2 hx s'.wf g'.rr y
      have s2 := s'.grow g2
      refine hg _ (List.getElem_mem hlt) x σ' H2 R2 As' s2.wf.sub s2.sl rx _ fun σ3 s3 _ => ?_
      exact hs R1 bs i _ Ms' As' hx hI σ3 H2 R2 (g'.trans' g2) ⟨s2.wf, s2.mu, s3⟩
    · have e : i = ds.length := by omega
      subst e
      exact .inl ⟨wk.stops H' R' s'.wf g'.rr, hd Ms' As' hI σ' H' R' (g'.base bs) s'⟩
/-- over a name -/
theorem go_for {wi : TI} {j : Nat} {ds : List PyData} (hi : EvI c Ms As wi ds) (I : Nat → MS → AS → Prop) (h0 : I 0 Ms As)
    (hs : ∀ Rb, Bs H0 R0 Rb → ∀ i d Ms As, ds[i]? = some d → I i Ms As → Go c H0 Rb Ms (As.set j (some (dp d))) (tu { D with nx := Inv c H0 Rb (I (i + 1)), ct := Inv c H0 Rb (I (i + 1)), bk := D.nx }))
    (hd : ∀ Ms As, I ds.length Ms As → Go c H0 R0 Ms As D.nx) : Go c H0 R0 Ms As (tFor wi (gName j) tu D) :=
  go_forG (fun d As => As.set j (some (dp d))) hi (fun _ _ => tg_name) I h0 hs hd
theorem go_forE {α : Type} {wi : TI} {j : Nat} (xs : List α) (f : α → PyData) (hi : EvI c Ms As wi (xs.map f)) (I : Nat → MS → AS → Prop) (h0 : I 0 Ms As)
    (hs : ∀ Rb, Bs H0 R0 Rb → ∀ k x Ms As, xs[k]? = some x → I k Ms As → Go c H0 Rb Ms (As.set j (some (dp (f x)))) (tu { D with nx := Inv c H0 Rb (I (k + 1)), ct := Inv c H0 Rb (I (k + 1)), bk := D.nx }))
    (hd : ∀ Ms As, I xs.length Ms As → Go c H0 R0 Ms As D.nx) : Go c H0 R0 Ms As (tFor wi (gName j) tu D) :=
  go_for hi I h0 (fun Rb hb k d Ms As hk hI => by
      rw [List.getElem?_map] at hk
      cases hx : xs[k]? with
      | none => rw [hx] at hk; cases hk
      | some x =>
        rw [hx] at hk
        cases hk
        exact hs Rb hb k x Ms As hx hI) (fun Ms As hI => hd Ms As (by rwa [List.length_map] at hI))
/-- over pairs -/
theorem go_for2 {α : Type} {wi : TI} {i j : Nat} (xs : List α) (f g : α → PyData) (hi : EvI c Ms As wi (xs.map fun x => .tuple [f x, g x])) (I : Nat → MS → AS → Prop) (h0 : I 0 Ms As)
    (hs : ∀ Rb, Bs H0 R0 Rb → ∀ k x Ms As, xs[k]? = some x → I k Ms As → Go c H0 Rb Ms ((As.set i (some (dp (f x)))).set j (some (dp (g x)))) (tu { D with nx := Inv c H0 Rb (I (k + 1)), ct := Inv c H0 Rb (I (k + 1)), bk := D.nx }))
    (hd : ∀ Ms As, I xs.length Ms As → Go c H0 R0 Ms As D.nx) : Go c H0 R0 Ms As (tFor wi (gTup K 2 (gCons (gName i) (gCons (gName j) gNil))) tu D) :=
  go_forG (fun d As => match d with | .tuple [a, b] => (As.set i (some (dp a))).set j (some (dp b)) | _ => As) hi (fun d hd => by
    obtain ⟨x, _, rfl⟩ := List.mem_map.mp hd
    exact tg_pair) I h0 (fun Rb hb k d Ms As hk hI => by
      rw [List.getElem?_map] at hk
      cases hx : xs[k]? with
      | none => rw [hx] at hk; cases hk
      | some x =>
        rw [hx] at hk
        cases hk
        exact hs Rb hb k x Ms As hx hI) (fun Ms As hI => hd Ms As (by rwa [List.length_map] at hI))
/-- while: a letter x, what is known at it, a measure -/
theorem go_while {α : Type} (I : α → MS → AS → Prop) (μ : α → Nat) (x0 : α) (h0 : I x0 Ms As)
    (hs : ∀ x Ms As, I x Ms As → ∃ b, EvT c Ms As t b ∧ (b = true → Go c H0 R0 Ms As (tu { D with nx := Inv c H0 R0 (fun Ms As => ∃ y, μ y < μ x ∧ I y Ms As), ct := Inv c H0 R0 (fun Ms As => ∃ y, μ y < μ x ∧ I y Ms As), bk := D.nx })) ∧ (b = false → Go c H0 R0 Ms As D.nx)) :
    Go c H0 R0 Ms As (tWhile t tu D) := fun σ H R g s => by
  refine ⟨fun m σ' H' => ∃ x, m = μ x ∧ Inv c H0 R0 (I x) σ' H', ⟨μ x0, x0, rfl, R, Ms, As, h0, g, s⟩, ?_⟩
  rintro m σ' H' ⟨x, rfl, R', Ms', As', hI, g', s'⟩
  obtain ⟨b, hb, h1, h2⟩ := hs x Ms' As' hI
  refine hb σ' H' R' s' _ fun H2 R2 g2 => ?_
  cases b with
  | true =>
    exact ⟨Inv c H0 R0 (fun Ms As => ∃ y, μ y < μ x ∧ I y Ms As), fun σ3 H3 ⟨R3, Ms3, As3, ⟨y, hy, hI3⟩, g3, s3⟩ => ⟨μ y, hy, y, rfl, R3, Ms3, As3, hI3, g3, s3⟩, h1 rfl σ' H2 R2 (g'.trans' g2) (s'.grow g2)⟩
  | false => exact h2 rfl σ' H2 R2 (g'.trans' g2) (s'.grow g2)
end

/-! ### a def's start -/
theorem start_slots {R : Hp} : ∀ {vs : List V} {as : List Asr} (n : Nat), HoldsAll R vs as → Slots (as.map some ++ List.replicate n none) (vs.map some ++ List.replicate n none) R
  | _, _, n, .nil => ⟨by simp, fun i A h => by
      simp only [List.map_nil, List.nil_append] at h
      rw [List.getElem?_replicate] at h
      split at h <;> cases h⟩
  | _, _, n, .cons (a := v) (b := A) h t => by
    have ih := start_slots n t
    refine ⟨by have := ih.len; simpa using this, fun i B hB => ?_⟩
    cases i with
    | zero => simp at hB; subst hB; exact ⟨v, rfl, h⟩
    | succ i => exact ih.at_ i B (by simpa using hB)
theorem go_start {c : Kx} {H R : Hp} {Ms : MS} {as : List Asr} {N : List Str} {vs : List V} {C : L2.St → Hp → Prop} (w : Wf c H R) (m : Muts c Ms H R) (ha : HoldsAll R vs as)
    (h : Go c H R Ms (as.map some ++ List.replicate (N.length - as.length) none) C) : C (L2.start N vs) H := by
  have e : vs.length = as.length := paired_len ha
  refine h _ H R (.refl w) ⟨w, m, ?_⟩
  unfold L2.start
  rw [e]
  exact start_slots _ ha
end Rb
end
section
set_option Elab.async false
set_option linter.all false
set_option autoImplicit false
set_option maxRecDepth 100000
set_option maxHeartbeats 4000000
namespace Rb
open PySem PySem.Spec PyProof.Rows L2
/-! ### the layer's rules with the written part told -/
section
variable {X : Cx} (K : PySem.W.Frag)
theorem k_ix_tup (h : X.K = K := by rfl) : IxR X (rIxT K) := by subst h; exact ix_tup
theorem k_ix_list (h : X.K = K := by rfl) : IxR X (rIxL K) := by subst h; exact ix_list
theorem k_in (h : X.K = K := by rfl) : OpR X (compareOp .In) (rIn K false) := by subst h; exact op_in_seq
theorem k_notin (h : X.K = K := by rfl) : OpR X (compareOp .NotIn) (rIn K true) := by subst h; exact op_notIn_seq
theorem k_eqD (hu : X.A.units + 64 < cLine) (h : X.K = K := by rfl) : OpR X (compareOp .Eq) (rEqD K) := by subst h; exact op_eqD hu
theorem k_neD (hu : X.A.units + 64 < cLine) (h : X.K = K := by rfl) : OpR X (compareOp .NotEq) (rNeD K) := by subst h; exact op_neD hu
theorem k_catA (h : X.K = K := by rfl) : OpR X (binaryOp .Add) (rCatA K) := by subst h; exact op_catA
theorem k_len (h : X.K = K := by rfl) : CallR X (.builtin "len") (fun xs H Q => ∃ p ys, xs = [.ref p] ∧ (SqL K H p ys ∨ SqT K H p ys) ∧ Q (.int ys.length) H) := by subst h; exact call_len_seq
theorem k_listof (h : X.K = K := by rfl) : CallR X (.type "list") (fun xs H Q => ∃ p ys, xs = [.ref p] ∧ (SqL K H p ys ∨ SqT K H p ys) ∧ ∀ l, H l = none → Q (.ref l) (upd H l (.lst ys))) := by subst h; exact call_list_of
theorem k_tupof (h : X.K = K := by rfl) : CallR X (.type "tuple") (fun xs H Q => ∃ p ys, xs = [.ref p] ∧ ((SqL K H p ys ∧ ∀ l, H l = none → Q (.ref l) (upd H l (.tup ys))) ∨ (SqT K H p ys ∧ Q (.ref p) H))) := by subst h; exact call_tuple_of
theorem k_all (hc : X.calm = true) (h : X.K = K := by rfl) : CallR X (.builtin "all") (rAll K) := by subst h; exact cr_all hc
theorem k_any (hc : X.calm = true) (h : X.K = K := by rfl) : CallR X (.builtin "any") (rAny K) := by subst h; exact cr_any hc
theorem k_sum (hc : X.calm = true) (h : X.K = K := by rfl) : CallR X (.builtin "sum") (rSum K) := by subst h; exact cr_sum hc
theorem k_max (hc : X.calm = true) (h : X.K = K := by rfl) : CallR X (.builtin "max") (rMax K) := by subst h; exact cr_max hc
theorem k_min (hc : X.calm = true) (h : X.K = K := by rfl) : CallR X (.builtin "min") (rMin K) := by subst h; exact cr_min hc
theorem k_sorted (h : X.K = K := by rfl) : CallR X (.builtin "sorted") (rSorted K) := by subst h; exact cr_sorted
theorem k_sortedPO (h : X.K = K := by rfl) : CallR X (.builtin "sorted") (rSortedPO K) := by subst h; exact cr_sortedPO
theorem k_isi (h : X.K = K := by rfl) : CallR X (.builtin "isinstance") (rIsi K) := by subst h; exact call_isi
theorem k_slL (h : X.K = K := by rfl) : SlR X (rSlL K) := by subst h; exact sl_list
theorem k_slT (h : X.K = K := by rfl) : SlR X (rSlA K) := by subst h; exact sl_tupA
theorem k_pi_list {tg l : Expr} {tl : TE} (hl : PE X l tl) (h : X.K = K := by rfl) : PI X tg l (iList K tl) := by subst h; exact pi_list hl
theorem k_pi_tup {tg l : Expr} {tl : TE} (hl : PE X l tl) (h : X.K = K := by rfl) : PI X tg l (iTup K tl) := by subst h; exact pi_tup hl
theorem k_revL {e : Expr} {te : TE} {k : Nat} {p1 p2 p3 pos : Pos} (he : PE X e te) (h : X.K = K := by rfl) : PE X (.Subscript e (.Slice none none (some (.UnaryOp .USub (.Constant (.int 1) k p1) p2)) p3) pos) (tRevL K te) := by subst h; exact pe_revL he
theorem k_pg_tup {es : List Expr} {k : Nat} {t : TGs} {n : Nat} {pos : Pos} (hc : X.calm = true) (hg : PGs X es t) (hn : (assignEach es X.env).length = n := by rfl) (hst : (assignEach es X.env).findIdx? (·.1) = none := by rfl) (h : X.K = K := by rfl) : PG X (.Tuple es k pos) (gTup K n t) := by
  subst h; exact pg_tup hc hg hn hst
theorem k_pg_unl {es : List Expr} {k : Nat} {t : TGs} {n : Nat} {pos : Pos} (hc : X.calm = true) (hg : PGs X es t) (hn : (assignEach es X.env).length = n := by rfl) (hst : (assignEach es X.env).findIdx? (·.1) = none := by rfl) (h : X.K = K := by rfl) : PG X (.Tuple es k pos) (gUnl K n t) := by
  subst h; exact pg_unl hc hg hn hst
theorem k_enum {e : Expr} {ta : TA} {p pos tpos : Pos} {elts : List Expr} {kk : Nat} (hg : Gl X "enumerate") (hm : X.mg "enumerate" = none) (ha : PA X [e] ta) (hs : starEach [e] X.env = [(false, eval e X.env)] := by rfl) (h : X.K = K := by rfl) :
    PI X (.Tuple elts kk tpos) (.Call (.Name "enumerate" p) [e] [] pos) (iEnum K ta) := by subst h; exact pi_enum hg hm ha hs
theorem k_zipA {e e2 : Expr} {ta : TA} {p pos tpos : Pos} {elts : List Expr} {kk : Nat} (hg : Gl X "zip") (hm : X.mg "zip" = none) (ha : PA X [e, e2] ta)
    (hs : starEach [e, e2] X.env = (false, eval e X.env) :: starEach [e2] X.env := by rfl) (hpl : (backTo pos (starEach [e2] X.env)).any (·.1) = false := by rfl) (h : X.K = K := by rfl) :
    PI X (.Tuple elts kk tpos) (.Call (.Name "zip" p) [e, e2] [] pos) (RZ.iZipA K ta) := by subst h; exact RZ.pi_zipA hg hm ha hs hpl
variable {o e : Expr} {es : List Expr} {to : TE} {t : TA} {name : Str} {apos cpos : Pos} {T id : String} {r : V → List V → Hp → VK → Prop}
theorem k_bm0 (pa : PlainAttrs T) (slot : Slot T name id) (hty : typeOf (.builtin id) = pure (.type "method_descriptor")) (hm : MtR X id r) (ho : PE X o to)
    (hbase : attributeBase o name X.env (eval o X.env) = eval o X.env := by rfl) (hline : (apos.endLine == cpos.line) = true := by rfl) (h : X.K = K := by rfl) : PE X (.Call (.Attribute o name apos) [] [] cpos) (tBM0 K T r to) := by
  subst h; exact pe_bm0 pa slot hty hm ho hbase hline
theorem k_bm (pa : PlainAttrs T) (slot : Slot T name id) (hty : typeOf (.builtin id) = pure (.type "method_descriptor")) (hm : MtR X id r) (ho : PE X o to) (ha : PA X (e :: es) t)
    (hbase : attributeBase o name X.env (eval o X.env) = eval o X.env := by rfl)
    (hfew : ((backTo cpos (starEach (e :: es) X.env)).all (fun x => !x.1) && (backToKw cpos (keywordEach [] X.env)).all (fun x => x.1.isSome)
      && decide ((e :: es).length + ([] : List Keyword).length + (if ([] : List Keyword).isEmpty then 0 else 1) < 30)) = true := by rfl)
    (hline : (apos.endLine == cpos.line) = true := by rfl) (hs : starEach (e :: es) X.env = (false, eval e X.env) :: starEach es X.env := by rfl) (hplain : (backTo cpos (starEach es X.env)).any (·.1) = false := by rfl) (h : X.K = K := by rfl) :
    PE X (.Call (.Attribute o name apos) (e :: es) [] cpos) (tBM K T r to t) := by
  subst h; exact pe_bm pa slot hty hm ho ha hbase hfew hline hs hplain
end
end Rb
end
section
set_option Elab.async false
set_option linter.all false
set_option autoImplicit false
set_option maxRecDepth 100000
set_option maxHeartbeats 4000000
namespace PySem
/-- min(a, b), compared where a heap stands -/
theorem rb_min_twoH {prog : Program} {w : World} {A : Around} {E : Value → Shared → Prop} {s : Shared} {a b : Value} {Q : Value → Shared → Prop}
    (h : wpAny (model prog w) A.in1 (pyIter (.ref s.heap.objs.size)) (fun it s₂ => ∃ I fp wr G n P St H bt, it = .ref I ∧ WalksS prog w A.in1 I fp wr G n P St ∧ St 0 s₂ ∧ (∀ b ∈ fp, b < s₂.heap.objs.size) ∧ 0 < n ∧
      (∀ b o, H.get? b = some o → b ∉ wr) ∧ (∀ b o, H.get? b = some o → s₂.heap.get? b = some o) ∧ CmpIn prog w A.in1 .Lt H P bt ∧ ∀ v s', P (argBest bt (n - 1)) v → Moved wr G s₂ s' → Q v s') E
      { s with heap := s.heap.push { cls := .type "tuple", data := .seq #[a, b] } }) :
    wpAny (model prog w) A (call (.builtin "min") [a, b]) Q E s := by
  have hname : (toString "min" ++ toString ".loop" : String) = "min.loop" := by decide
  refine call_function_tree F.kind_min F.plain_min F.entry_min (F.args_min2 _ _) ?_
  show wpAny _ A.in1 (Builtin.Builtins.bindParams "min" ["key", "default"] 0 ⟨[], []⟩ >>= _) _ _ s
  refine wpAny_bind (wpAny_of_eq (show Builtin.Builtins.bindParams "min" ["key", "default"] 0 ⟨[], []⟩ = pure [none, none] from rfl) ?_)
  show wpAny _ A.in1 (newTuple [a, b] >>= _) _ _ s
  refine wpAny_bind (wpAny_newObj_type ?_)
  refine wpAny_bind (wpAny_mono h (fun it s₂ h₂ => ?_) fun _ _ e => e)
  obtain ⟨I, fp, wr, G, n, P, St, H, bt, rfl, W, hst, hfp, hn, hw, hkeep, hcmp, hQ⟩ := h₂
  refine wpAny_bind (wpAny_newObj_type ?_)
  have hSf : s₂.heap.objs.size ∉ fp := fun hm => Nat.lt_irrefl _ (hfp _ hm)
  rw [hname]
  refine wpAny_pure ⟨plainId_quiet F.plain_min_loop _, codeAny_min_loop_firstH W H hw bt hcmp s₂.heap.objs.size hSf (fresh_in hkeep) _ hn (fun b o e => Heap.get?_push_of_some _ (hkeep b o e)) (W.frame 0 s₂ _ s₂.toks hst (Nat.le_refl _) fun b _ o e => Heap.get?_push_of_some _ e) (Heap.get?_push_size _ rfl) fun v s' hP hm => ?_⟩
  exact hQ v s' hP (Moved.drop_new (tk := s₂.toks) hm (Nat.le_refl _))
end PySem
namespace Rb
open PySem PySem.Spec PyProof.Rows L2
/-! ### what stands for data reads as it -/
section
variable {X : Cx} {pins : List (Addr × Obj)} {σ : L2.St} {H R : Hp} {s : Shared}
mutual
theorem rep_reads (I : L2.Inv X pins σ H s) (e : Same R H) : ∀ (d : PyData) (v : V) (u : Value), Rep R v d → RelV v u → ∃ as, Reads s.heap u d as
  | .none, _, _, h, r => by cases h; cases r; exact ⟨_, .none⟩
  | .bool b, _, _, h, r => by cases h; cases r; exact ⟨_, .bool b⟩
  | .int i, _, _, h, r => by cases h; obtain ⟨t, rfl⟩ := r; exact ⟨_, .int i t⟩
  | .str x, _, _, h, r => by cases h; obtain ⟨t, rfl⟩ := r; exact ⟨_, .str x t⟩
  | .list ds, _, _, h, r => by
    cases h with
    | lst h1 h2 =>
      cases r
      obtain ⟨its, rv, pl, _⟩ := I.list (.inl (.inl (e _ _ h1)))
      obtain ⟨as, ra⟩ := reps_reads I e ds _ its h2 rv
      obtain ⟨o, ho, hc, n, hd⟩ := pl.isList
      exact ⟨_, .list ho hc hd ra⟩
  | .tuple ds, _, _, h, r => by
    cases h with
    | tup h1 h2 =>
      cases r
      obtain ⟨its, rv, ⟨o, ho, hc, n, hd⟩, _⟩ := I.tuple (.inl (.inl (e _ _ h1)))
      obtain ⟨as, ra⟩ := reps_reads I e ds _ its h2 rv
      exact ⟨_, .tuple ho hc hd ra⟩
  | .dict _, _, _, h, _ => by cases h
theorem reps_reads (I : L2.Inv X pins σ H s) (e : Same R H) : ∀ (ds : List PyData) (vs : List V) (us : List Value), Reps R vs ds → Vals vs us → ∃ as, ReadsAll s.heap us ds as
  | [], _, _, h, r => by cases h; cases r; exact ⟨_, .nil⟩
  | d :: ds, _, _, h, r => by
    cases h with
    | cons h1 h2 =>
      cases r with
      | cons r1 r2 =>
        obtain ⟨a1, q1⟩ := rep_reads I e d _ _ h1 r1
        obtain ⟨a2, q2⟩ := reps_reads I e ds _ _ h2 r2
        exact ⟨_, .cons q1 q2⟩
end
end
/-! ### sorted(xs), alike data -/
section
variable {X : Cx}
def rSortedD (K : PySem.W.Frag) : List V → Hp → VK → Prop := fun vs H Q => ∃ (a : Addr) (xs : List V) (R : Hp) (ds : List PyData), vs = [V.ref a] ∧ SqL K H a xs ∧ Same R H ∧ Reps R xs ds ∧ PySem.W.AllAlike ds ∧ PySem.W.Sortable ds ∧ (∀ d ∈ ds, d.depth ≤ 50) ∧
  ∀ (ys : List V) (p : Addr), Reps R ys (ds.mergeSort (PySem.W.dataLe false id)) → H p = none → Q (.ref p) (upd H p (.lst ys))
theorem each_of_reps {R : Hp} : ∀ {xs : List V} {us : List Value} {ds : List PyData}, Vals xs us → Reps R xs ds → PySem.W.EachIs (fun u d => ∃ y, RelV y u ∧ Rep R y d) us ds
  | _, _, _, .nil, .nil => .nil
  | _, _, _, .cons r1 r2, .cons h1 h2 => .cons ⟨_, r1, h1⟩ (each_of_reps r2 h2)
theorem reps_of_each {R : Hp} : ∀ {us : List Value} {ds : List PyData}, PySem.W.EachIs (fun u d => ∃ y, RelV y u ∧ Rep R y d) us ds → ∃ ys : List V, Vals ys us ∧ Reps R ys ds
  | _, _, .nil => ⟨[], .nil, .nil⟩
  | _, _, .cons ⟨y, h1, h2⟩ t => by
    obtain ⟨ys, a, b⟩ := reps_of_each t
    exact ⟨y :: ys, .cons h1 a, .cons h2 b⟩
theorem each_reads {pins : List (Addr × Obj)} {σ : L2.St} {H R : Hp} {s : Shared} (I : L2.Inv X pins σ H s) (e : Same R H) : ∀ {us : List Value} {ds : List PyData}, PySem.W.EachIs (fun u d => ∃ y, RelV y u ∧ Rep R y d) us ds → PySem.W.EachIs (fun v b => ∃ as, Reads s.heap v (id b) as) us ds
  | _, _, .nil => .nil
  | _, _, .cons ⟨y, h1, h2⟩ t => .cons (rep_reads I e _ y _ h2 h1) (each_reads I e t)
theorem cr_sortedD (K : PySem.W.Frag) (hu : X.A.units + 64 < cLine) (hK : X.K = K := by rfl) : CallR X (.builtin "sorted") (rSortedD K) := by
  subst hK
  intro pins s σ H vs us Q I r h
  obtain ⟨a, xs, R, ds, rfl, hs, e, hr, ha, hS, hd, q⟩ := h
  obtain ⟨its, rv, hl, hz⟩ := I.list hs
  rw [Vals.ref1 r]
  have ea := each_of_reps rv hr
  have hlen : ds.length = xs.length := (hr.length).symm
  refine PySem.W.sorted_data (vs := its) (enc := id) hl.isList ea (each_reads I e ea) (by rw [List.map_id]; exact ha) (by rw [List.map_id]; exact hS) (by rw [hlen]; exact hz) (fun b hb => by have := hd b hb; show X.A.units + 2 + b.depth < cLine; omega) fun out ho eo => ?_
  obtain ⟨ys, h1, h2⟩ := reps_of_each eo
  obtain ⟨ep, he'⟩ := PyProof.Rows.sortedAll_at s.heap its out.toArray
  have hl2 : ys.length ≤ sizeLine := by
    rw [h1.length, ho, hlen]; exact hz
  exact ⟨.ref _, upd H (s.heap.objs.size + 1) (.lst ys), I.laid (t' := s.toks) (fun _ _ => PyProof.Rows.sortedAll_old) (Nat.le_succ _) ⟨hl2, out, ep, h1, he'⟩, rfl, q ys _ h2 (I.hok.fresh (Nat.le_succ _))⟩

/-! ### sorted(set(t)), len(set(t)), t a tuple of ints -/
def tSortedSet (K : PySem.W.Frag) (ta : TE) : TE := fun σ H Q => ta σ H fun x H1 => ∃ (l : Addr) (ns : List Int), x = .ref l ∧ SqT K H1 l (ns.map V.int) ∧ ns.length < 63 ∧ ∀ (ms : List Int) (p : Addr), ms.Pairwise (· < ·) → (∀ k, k ∈ ms ↔ k ∈ ns) → H1 p = none → Q (.ref p) (upd H1 p (.lst (ms.map V.int)))
theorem pe_sortedSet (K : PySem.W.Frag) {a : Expr} {ta : TE} {p p2 q pos : Pos} (hc : X.calm = true) (hg : Gl X "sorted") (hm : X.mg "sorted" = none) (hg2 : Gl X "set") (hm2 : X.mg "set" = none) (ha : PE X a ta)
    (na : starEach [a] X.env = (false, eval a X.env) :: starEach [] X.env := by rfl) (hK : X.K = K := by rfl) : PE X (.Call (.Name "sorted" p) [.Call (.Name "set" p2) [a] [] q] [] pos) (tSortedSet K ta) := by
  subst hK
  refine ⟨fun pins s σ H Q I h => ?_⟩
  refine Call_ (ld_blt I hg hm (show bootBuiltins "sorted" = some (.builtin "sorted") by decide +kernel) ?_)
  refine PyProof.Rows.callWith_builtin1 (PyProof.Rows.args_cons ?_ rfl) rfl rfl
  refine Call_ (ld_blt I hg2 hm2 PyProof.Rows.boot_set ?_)
  refine PyProof.Rows.callWith_type1 (PyProof.Rows.args_cons (thn (ha.run pins s σ H _ I h) fun v s1 ⟨x, H1, I1, r1, q1⟩ => PyProof.Rows.args_nil ?_) na) na rfl
  obtain ⟨l, ns, rfl, hq, h1, q1⟩ := q1
  cases r1
  obtain ⟨its, r, pl, hz⟩ := I1.tuple hq
  have hl : its.length = ns.length := by rw [← r.length, List.length_map]
  refine call_set_tupI ns (I1.ok.hd hc) (show s1.heap.IsTuple l its.toArray from pl) (by simpa using r.ints) (by unfold scanBound; omega) fun h' tk c R1 hcn hk => ?_
  refine PyProof.Rows.args_nil ?_
  have I2 : L2.Inv X pins σ H1 { s1 with heap := h', toks := tk } := I1.kept fun b o e => hk b o e
  refine L2.sorted_set R1 (I1.ok.hd hc) (by omega) fun s' p out c2 ms k g o hp hg' hI hpw hmem hln => ?_
  have hn : H1 p = none := I2.hok.fresh hp
  have hsz : (ms.map V.int).length ≤ sizeLine := by rw [List.length_map, sizeLine_eq]; omega
  have J : L2.Inv X pins σ (upd H1 p (.lst (ms.map V.int))) s' :=
    I2.call' (ch := []) o (Un.laid k hp hn) (I2.hok.laid k hp ⟨hsz, out.toList, c2, vals_of_ints hI, by rw [Array.toArray_toList]; exact hg'⟩) (by rw [g]; exact I2.bare) (fun _ z => nomatch z)
  exact ⟨.ref p, _, J, rfl, q1 ms p hpw (fun k => by rw [hmem k, decide_eq_true_eq]) hn⟩
def tLenSetT (K : PySem.W.Frag) (ta : TE) : TE := fun σ H Q => ta σ H fun x H1 => ∃ (l : Addr) (ns : List Int), x = .ref l ∧ SqT K H1 l (ns.map V.int) ∧ ns.length < 63 ∧ ∀ ms : List Int, ms.Nodup → (∀ k, k ∈ ms ↔ k ∈ ns) → Q (.int ms.length) H1
theorem pe_lenSetT (K : PySem.W.Frag) {a : Expr} {ta : TE} {p p2 q pos : Pos} (hc : X.calm = true) (hg : Gl X "len") (hm : X.mg "len" = none) (hg2 : Gl X "set") (hm2 : X.mg "set" = none) (ha : PE X a ta)
    (na : starEach [a] X.env = (false, eval a X.env) :: starEach [] X.env := by rfl) (hK : X.K = K := by rfl) : PE X (.Call (.Name "len" p) [.Call (.Name "set" p2) [a] [] q] [] pos) (tLenSetT K ta) := by
  subst hK
  refine ⟨fun pins s σ H Q I h => ?_⟩
  refine Call_ (ld_blt I hg hm PySem.boot_len ?_)
  refine PyProof.Rows.callWith_builtin1 (PyProof.Rows.args_cons ?_ rfl) rfl rfl
  refine Call_ (ld_blt I hg2 hm2 PyProof.Rows.boot_set ?_)
  refine PyProof.Rows.callWith_type1 (PyProof.Rows.args_cons (thn (ha.run pins s σ H _ I h) fun v s1 ⟨x, H1, I1, r1, q1⟩ => PyProof.Rows.args_nil ?_) na) na rfl
  obtain ⟨l, ns, rfl, hq, h1, q1⟩ := q1
  cases r1
  obtain ⟨its, r, pl, hz⟩ := I1.tuple hq
  refine call_set_tupI ns (I1.ok.hd hc) (show s1.heap.IsTuple l its.toArray from pl) (by simpa using r.ints) (by unfold scanBound; omega) fun h' tk c R1 hcn hk => ?_
  refine PyProof.Rows.args_nil ?_
  have I2 : L2.Inv X pins σ H1 { s1 with heap := h', toks := tk } := I1.kept fun b o e => hk b o e
  obtain ⟨o, es, ep, t, ho, hex, hd, g, nd, hmem, _, hf, hn, _, _⟩ := R1
  have q2 := q1 (es.toList.map keyOf) nd fun k => by rw [← hmem k, decide_eq_true_eq]
  rw [List.length_map, Array.length_toList] at q2
  exact call_len_set ho hex hd hf (by omega) ⟨.int es.size, H1, I2.tok _, ⟨_, rfl⟩, q2⟩

/-! ### sorted(xs, reverse=True), ints -/
theorem pe_sortedRev (K : PySem.W.Frag) {e : Expr} {te : TE} {p pos kp kp2 : Pos} {n : Nat} (hg : Gl X "sorted") (hm : X.mg "sorted" = none) (he : PE X e te)
    (h0 : starEach [e] X.env = (false, eval e X.env) :: starEach [] X.env := by rfl) (h1 : backTo pos (starEach [e] X.env) = (false, eval e X.env) :: backTo pos (starEach [] X.env) := by rfl) (hpl : (backTo pos (starEach [e] X.env)).any (·.1) = false := by rfl) (hK : X.K = K := by rfl) :
    PE X (.Call (.Name "sorted" p) [e] [⟨some (Str.ofString "reverse"), .Constant (.bool true) n kp, kp2⟩] pos) (tCKw (rSortedKw K true [.bl true]) (tCons te tNil) (tCons (tC (.bl true)) tNil)) := by
  subst hK
  exact pe_callBK cr_sortedRev hg hm (by decide +kernel) (pa_cons he pa_nil (hs := h0)) (pk_cons pe_bl pk_nil) (he := h1) (hpl := hpl)

/-! ### max(t), t a tuple of ints; min of pairs of ints -/
def rMaxT (K : PySem.W.Frag) : List V → Hp → VK → Prop := fun vs H Q => ∃ (a : Addr) (ns : List Int), vs = [V.ref a] ∧ SqT K H a (ns.map V.int) ∧ 0 < ns.length ∧ ∀ m : Int, m ∈ ns → (∀ y ∈ ns, y ≤ m) → Q (.int m) H
theorem hold_ints {h : Heap} : ∀ {us : List Value} {ns : List Int}, IntsAre us ns → ∃ as, ReadsAll h us (ns.map PyData.int) as
  | _, _, .nil => ⟨_, .nil⟩
  | _, _, .cons n t r => by
    obtain ⟨as, q⟩ := hold_ints r
    exact ⟨_, .cons (.int _ _) q⟩
theorem foldmax (x : Int) : ∀ ns : List Int, ns.foldl max x ∈ x :: ns ∧ ∀ y ∈ x :: ns, y ≤ ns.foldl max x := fun ns => by
  induction ns generalizing x with
  | nil => exact ⟨List.mem_cons_self, fun y hy => by rcases List.mem_cons.mp hy with rfl | hy; exact Int.le_refl _; cases hy⟩
  | cons n ns ih =>
    obtain ⟨h1, h2⟩ := ih (max x n)
    show ns.foldl max (max x n) ∈ _ ∧ ∀ y ∈ _, y ≤ ns.foldl max (max x n)
    have h3 := h2 _ List.mem_cons_self
    refine ⟨?_, fun y hy => ?_⟩
    · rcases List.mem_cons.mp h1 with e | e
      · rw [e]
        rcases Int.le_total x n with c | c
        · rw [Int.max_eq_right c]; simp
        · rw [Int.max_eq_left c]; simp
      · exact List.mem_cons_of_mem _ (List.mem_cons_of_mem _ e)
    · rcases List.mem_cons.mp hy with rfl | hy
      · omega
      · rcases List.mem_cons.mp hy with rfl | hy
        · omega
        · exact h2 y (List.mem_cons_of_mem _ hy)
theorem cr_maxT (K : PySem.W.Frag) (hc : X.calm = true) (hu : X.A.units + 64 < cLine) (hK : X.K = K := by rfl) : CallR X (.builtin "max") (rMaxT K) := by
  subst hK
  intro pins s σ H vs us Q I r h
  obtain ⟨a, ns, rfl, hs, hne, q⟩ := h
  obtain ⟨its, rv, hl, _⟩ := I.tuple hs
  rw [Vals.ref1 r]
  cases ns with
  | nil => exact absurd hne (by simp)
  | cons n ns =>
    obtain ⟨as, ra⟩ := hold_ints (h := s.heap) rv.ints
    have ra' : ReadsAll s.heap its.toArray.toList (PySem.W.Datum.toD n :: ns.map PySem.W.Datum.toD) as := by
      have e0 : its.toArray.toList = its := by simp
      rw [e0]
      exact ra
    refine PySem.W.max_tuple_datum (A := X.A) (α := Int) (x := n) (xs := ns) (I.ok.hd hc) (show s.heap.IsTuple a its.toArray from hl) ⟨as, ra'⟩ (by show X.A.units + 1 + 0 < cLine; omega) fun i v h' tk hi hv hk => ?_
    obtain ⟨bs, rb⟩ := hv
    have e : PySem.W.maxOf n ns = ns.foldl max n := by
      have z := PySem.W.maxD_map (α := Int) n ns
      have z2 := PySem.W.maxD_ints n ns
      have z3 : PyData.int (PySem.W.maxOf n ns) = .int (ns.foldl max n) := z.symm.trans z2
      injection z3
    have rb' : Reads h' v (.int (PySem.W.maxOf n ns)) bs := rb
    rw [e] at rb'
    cases rb' with
    | int _ t => exact ⟨.int _, H, I.kept hk, ⟨t, rfl⟩, q _ (foldmax n ns).1 (foldmax n ns).2⟩
end
end Rb
end
section
set_option Elab.async false
set_option linter.all false
set_option maxRecDepth 100000
set_option maxHeartbeats 4000000
namespace RbI
open PySem PySem.Spec PyProof.Rows L2 RZ
/-! ### walks that hand out a new pair at each turn -/
def pairIt (g : Nat → Hp → Prop) (u : Nat → Hp → V → V → Prop) (n : Nat → Hp → Prop) : It := ⟨g, fun i H v H' => ∃ T x y, v = .ref T ∧ H T = none ∧ H' = upd H T (.tup [x, y]) ∧ u i H x y, n⟩
/-- such a walk, from one that the library tells by WalksT -/
theorem turn_pairs {P : Program} {w : World} {K : PySem.W.Frag} {elts : List Expr} {kk : Nat} {tpos : Pos} {g n : Nat → Hp → Prop} {u : Nat → Hp → V → V → Prop} {it : Addr} {fp : List Addr} {tn : Nat → Heap → Prop}
    (mem : it ∈ fp) (obj : ∀ i h, tn i h → ∀ b ∈ fp, ∃ o, h.get? b = some o ∧ ∀ v, o.data ≠ .cell v)
    (keep : ∀ i h h', tn i h → (∀ b ∈ fp, ∀ o, h.get? b = some o → h'.get? b = some o) → tn i h')
    (self : ∀ (A : Around) (i : Nat) (s : Shared) (Q E : Value → Shared → Prop), tn i s.heap → Q (.ref it) s → wpAny (model P w) A (pyIter (.ref it)) Q E s)
    (src : ∀ (X : Cx), X.prog = P → X.w = w → X.K = K → X.calm = true → ∀ (i : Nat) (pins : List (Addr × Obj)) (σ : L2.St) (H : Hp) (s : Shared), L2.Inv X pins σ H s → tn i s.heap → g i H ∨ n i H →
      ∃ (fpW wr : List Addr) (nW : Nat) (Pt : Nat → Array Value → Prop) (Sw : Nat → Heap → Prop) (Mid : Nat → Addr → Heap → Prop), (∀ b ∈ wr, b ∈ fp) ∧ WalksT P w X.A it fpW wr nW Pt Sw Mid ∧ Sw i s.heap ∧
        (g i H → i < nW ∧ ∃ x y, u i H x y ∧ ∀ vals, Pt i vals → Vals [x, y] vals.toList) ∧ (n i H → nW = i) ∧ ∀ j h, Sw j h → tn j h) : Turn P w K (.Tuple elts kk tpos) (pairIt g u n) fp it tn where
  mem := mem
  obj := obj
  keep := keep
  self := self
  item := fun X hP hw hK hc i pins s σ H E I hf st hg => by
    obtain ⟨fpW, wr, nW, Pt, Sw, Mid, inn, W, sw, hgo, _, back⟩ := src X hP hw hK hc i pins σ H s I st (.inl hg)
    obtain ⟨hi, x, y, hu, hv⟩ := hgo hg
    subst hP hw
    refine W.item i s _ E hi sw fun T vals h1 tk hp hT ht mid k1 => ⟨.ref T, rfl, W.go elts kk tpos i T _ _ E mid fun h2 sw2 k2 => ?_⟩
    obtain ⟨o, ho, oc, m, od⟩ := ht
    have new : ObjOk X.prog X.w (upd H T (.tup [x, y])) h2 T (.tup [x, y]) := ⟨show 2 ≤ sizeLine by decide, vals.toList, hv vals hp, o, k2 T o (W.apart i T h1 mid) ho, oc, m, od⟩
    refine ⟨.ref T, _, I.turnedNew (t' := tk) (ch := fp) (fun b v hb e => k2 b v (fun z => hb (inn b z)) (k1 b v (fun z => hb (inn b z)) e)) hf hT new, rfl, ⟨T, x, y, rfl, I.hok.fresh hT, rfl, hu⟩, back _ _ sw2, fun b hb => ?_⟩
    obtain ⟨v, hv', _⟩ := obj i s.heap st b hb
    rw [upd_ne (Nat.ne_of_lt (Nat.lt_of_lt_of_le (Heap.lt_size hv') hT))]
    exact (hf b hb).1
  done := fun X hP hw hK hc i pins s σ H E I hf st hg => by
    obtain ⟨fpW, wr, nW, Pt, Sw, Mid, inn, W, sw, _, hn, _⟩ := src X hP hw hK hc i pins σ H s I st (.inr hg)
    subst hP hw
    rw [← hn hg] at sw
    exact W.done s _ E sw fun h1 tk k1 => ⟨rfl, I.turnedL (t' := tk) (ch := fp) (fun b v hb e => k1 b v (fun z => hb (inn b z)) e) hf⟩
/-- two objects of different kinds are two -/
theorem cls_ne {h : Heap} {a b : Addr} {o o' : Obj} (ho : h.get? a = some o) (ho' : h.get? b = some o') (hc : o.cls ≠ o'.cls) : a ≠ b := fun e => by
  subst e
  rw [ho] at ho'
  cases ho'
  exact hc rfl

/-! ### enumerate(t), t a tuple -/
def IteT (K : PySem.W.Frag) (a : Addr) : It := pairIt (fun i H => ∃ xs : List V, SqT K H a xs ∧ ∃ x, xs[i]? = some x) (fun i H x y => x = .int (i : Nat) ∧ ∀ xs, SqT K H a xs → xs[i]? = some y) fun i H => ∃ xs : List V, SqT K H a xs ∧ xs.length = i
def enT (a e it : Addr) (i : Nat) (h : Heap) : Prop := (∃ old, IsEnum h e it (i : Int) old) ∧ h.IsTupleIter it a i
theorem turn_enumT {P : Program} {w : World} {K : PySem.W.Frag} {elts : List Expr} {kk : Nat} {tpos : Pos} (a e it : Addr) (hne : e ≠ it) : Turn P w K (.Tuple elts kk tpos) (IteT K a) [e, it] e (enT a e it) := by
  have two : ∀ {b : Addr}, b ∈ [e, it] → b = e ∨ b = it := fun hb => by simpa using hb
  refine turn_pairs (List.mem_cons_self ..) (fun i h st b hb => ?_) (fun i h h' st k => ?_) (fun A i s Q E st q => ?_) fun X hP hw hK hc i pins σ H s I st hg => ?_
  · obtain ⟨⟨old, he⟩, o, ho, _, hd⟩ := st
    rcases two hb with rfl | rfl
    · exact ⟨_, he, fun v z => nomatch z⟩
    · exact ⟨o, ho, fun v z => by rw [hd] at z; cases z⟩
  · obtain ⟨⟨old, he⟩, hi⟩ := st
    exact ⟨⟨old, k e (by simp) _ he⟩, hi.at fun o z => k it (by simp) o z⟩
  · obtain ⟨⟨_, he⟩, _⟩ := st
    exact wpAny_pyIter_enum he q
  · obtain ⟨⟨old, he⟩, hit⟩ := st
    subst hP hw hK
    obtain ⟨xs, hq⟩ : ∃ xs : List V, SqT X.K H a xs := hg.elim (fun ⟨xs, h, _⟩ => ⟨xs, h⟩) fun ⟨xs, h, _⟩ => ⟨xs, h⟩
    obtain ⟨its, rv, p, _⟩ := I.tuple hq
    have tup : s.heap.IsTuple a its.toArray := p
    obtain ⟨oi, hoi, ci, di⟩ := id hit
    obtain ⟨oa, hoa, ca, _⟩ := id tup
    have nit : a ≠ it := cls_ne hoa hoi (by rw [ca, ci]; decide)
    have nea : e ≠ a := cls_ne he hoa (by rw [ca]; show Value.type "enumerate" ≠ Value.type "tuple"; decide)
    have dr := Draws.tuple (prog := X.prog) (w := X.w) (A := X.A.in1) (I.ok.hd hc) it a nit its.toArray
    refine ⟨_, _, _, _, _, _, fun b hb => hb, WalksT.enumFrom 0 dr e hne (by simp [hne, nea]) (by simp), ⟨⟨old, by rw [Int.zero_add]; exact he⟩, hit, tup⟩, fun ⟨ys, hy, y, hx⟩ => ?_, fun ⟨ys, hy, hl⟩ => ?_, fun j h ⟨⟨o', h1⟩, h2, _⟩ => ⟨⟨o', by rw [Int.zero_add] at h1; exact h1⟩, h2⟩⟩
    · rw [I.tuple_inj hy hq] at hx
      obtain ⟨v, hv, rel⟩ := rv.get hx
      refine ⟨by rw [List.size_toArray]; exact (List.getElem?_eq_some_iff.mp hv).1, .int (i : Nat), y, ⟨rfl, fun zs hz => by rw [I.tuple_inj hz hq]; exact hx⟩, fun vals ⟨t, z, hz, ev⟩ => ?_⟩
      have : z = v := by
        rw [List.getElem?_toArray, hv] at hz
        exact (Option.some.inj hz).symm
      subst this
      rw [ev]
      exact .cons ⟨t, by rw [Int.zero_add]⟩ (.cons rel .nil)
    · rw [List.size_toArray, ← hl, I.tuple_inj hy hq]
      exact rv.length.symm
/-- enumerate(v), v told by Begins -/
theorem enum_new1 {v : Value} {o : Obj} {Hv : Heap → Prop} (B : Begins v o Hv) : Meets (Builtin.«enumerate.__new__» ⟨[.type "enumerate", v], []⟩) fun _ R s => Hv s.heap ∧
    R (.ok (.ret (.ref (s.heap.push o).objs.size))) { s with heap := (s.heap.push o).push { cls := .type "enumerate", data := .fields #[.none, .bool false, .ref s.heap.objs.size, rawInt 0, .none, .none] } } := .of_wp fun prog w A R s ⟨hv, fin⟩ => by
  have sub := sub_enumerate
  have begin_ : ∀ {A' : Around} {E Q : Value → Shared → Prop}, Q (.ref s.heap.objs.size) { s with heap := s.heap.push o } → wpAny (model prog w) A' (pyIter v) Q E s := fun q => B.iter prog w _ _ s _ hv q
  wp_walk using begin_
  refine wpAny_stack_any fun st => wpAny_pure ?_
  split
  · rename_i cl _ _ _ _ _
    cases (cl == Value.type "enumerate") <;> (wp_walk using begin_; exact ⟨_, rfl, fin⟩)
  · wp_walk using begin_
    exact ⟨_, rfl, fin⟩
section
variable {X : Cx} {e e2 : Expr} {ta : TA} {p pos tpos : Pos} {elts : List Expr} {kk : Nat}
def iEnumT (K : PySem.W.Frag) (ta : TA) : TI := fun σ H R => ta σ H fun vs H1 => ∃ a, vs = [.ref a] ∧ (∃ xs, SqT K H1 a xs) ∧ R (IteT K a) H1
theorem pi_enumT0 (hg : Gl X "enumerate") (hm : X.mg "enumerate" = none) (ha : PA X [e] ta) (hs : starEach [e] X.env = [(false, eval e X.env)] := by rfl) :
    PI X (.Tuple elts kk tpos) (.Call (.Name "enumerate" p) [e] [] pos) (iEnumT X.K ta) where
  run := fun pins s σ H R I h => Call_ (ld_blt I hg hm boot_enumerate (PyProof.Rows.callWith_type1 (thn (ha.run pos pins s σ H _ I h) fun us s1 ⟨vs, H1, I1, r1, a, ev, ⟨xs, hq⟩, q⟩ => by
    subst ev
    cases r1 with
    | cons r rr =>
      cases rr
      cases r
      obtain ⟨its, rv, tup, _⟩ := I1.tuple hq
      have B := begins_tuple a its.toArray
      generalize hn : s1.heap.objs.size = N
      have z1 : (s1.heap.push { cls := .type "tuple_iterator", data := .fields #[.ref a, .int 0 0] }).objs.size = N + 1 := by rw [Heap.size_push, hn]
      refine callType_new F.called_enumerate (by decide) (F.typeCall_enumerate_1 _) (F.newCall_enumerate_1 _) (fun ob => F.args_object_init_2 ob _) F.entry_enumerate_new (enum_new1 B) ⟨tup, ?_⟩
      have en := Heap.get?_push_size (s1.heap.push { cls := .type "tuple_iterator", data := .fields #[.ref a, .int 0 0] }) (o := { cls := .type "enumerate", data := .fields #[.none, .bool false, .ref s1.heap.objs.size, rawInt 0, .none, .none] }) rfl
      show _ ∧ _
      rw [z1] at en ⊢
      rw [hn] at en
      have itr := Heap.get?_push_of_some { cls := .type "enumerate", data := .fields #[.none, .bool false, .ref s1.heap.objs.size, rawInt 0, .none, .none] } (Heap.get?_push_size s1.heap B.free)
      rw [hn] at itr
      refine ⟨⟨_, by rw [hn]; exact en, rfl⟩, wpAny_pyIter_enum (by rw [hn]; exact en) ?_⟩
      have I2 := I1.kept (t' := s1.toks) fun b o hb => Heap.get?_push_of_some { cls := .type "enumerate", data := .fields #[.none, .bool false, .ref N, rawInt 0, .none, .none] } (Heap.get?_push_of_some { cls := .type "tuple_iterator", data := .fields #[.ref a, .int 0 0] } hb)
      rw [hn]
      refine ⟨N + 1, [N + 1, N], _, _, H1, rfl, I2, turn_enumT a (N + 1) N (Nat.succ_ne_self N), ⟨⟨.none, en⟩, _, itr, rfl, rfl⟩, fun b hb => ?_, q⟩
      have big : s1.heap.objs.size ≤ b := by
        rw [hn]
        have : b = N + 1 ∨ b = N := by simpa using hb
        rcases this with z | z <;> rw [z]
        · exact Nat.le_succ N
        · exact Nat.le_refl N
      exact I1.fpOk big (I1.hok.fresh big)) hs rfl))
end
end RbI
/-! ### zip(t, l), t a tuple, l a list: its cells stand at N, N + 1, .. -/
namespace RbZ
open PySem PySem.Spec PyProof.Rows L2 RZ RbI
def ItzTL (K : PySem.W.Frag) (a b : Addr) : It := pairIt (fun i H => ∃ xs ys : List V, SqT K H a xs ∧ SqL K H b ys ∧ ∃ x y, xs[i]? = some x ∧ ys[i]? = some y)
  (fun i H x y => (∀ xs, SqT K H a xs → xs[i]? = some x) ∧ ∀ ys, SqL K H b ys → ys[i]? = some y) fun i H => ∃ xs ys : List V, SqT K H a xs ∧ SqL K H b ys ∧ min xs.length ys.length = i
def zpTL (N a b i : Nat) (h : Heap) : Prop := IsZip h (N + 4) (N + 2) (N + 3) .none ∧ IsTupOf2 h (N + 2) (.ref N) (.ref (N + 1)) ∧ (∃ p q, IsTupOf2 h (N + 3) p q) ∧ h.IsTupleIter N a i ∧ h.IsListIter (N + 1) b i
theorem turn_zipTL {P : Program} {w : World} {K : PySem.W.Frag} {elts : List Expr} {kk : Nat} {tpos : Pos} {N a b : Nat} (ha : a < N) (hb : b < N) : Turn P w K (.Tuple elts kk tpos) (ItzTL K a b) [N + 4, N + 2, N + 3, N, N + 1] (N + 4) (zpTL N a b) := by
  refine turn_pairs (List.mem_cons_self ..) (fun i h st c hc => ?_) (fun i h h' st k => ?_) (fun A i s Q E st q => wpAny_pyIter_zip st.1 q) fun X hP hw hK hc i pins σ H s I st hg => ?_
  · obtain ⟨z, ti, ⟨p, q, to⟩, ⟨o1, h1, _, d1⟩, o2, h2, _, d2⟩ := st
    simp only [List.mem_cons, List.not_mem_nil, or_false] at hc
    rcases hc with rfl | rfl | rfl | rfl | rfl
    · exact ⟨_, z, fun v e => nomatch e⟩
    · exact ⟨_, ti, fun v e => nomatch e⟩
    · exact ⟨_, to, fun v e => nomatch e⟩
    · exact ⟨o1, h1, fun v e => by rw [d1] at e; cases e⟩
    · exact ⟨o2, h2, fun v e => by rw [d2] at e; cases e⟩
  · obtain ⟨z, ti, ⟨p, q, to⟩, h1, h2⟩ := st
    exact ⟨k _ (by simp) _ z, k _ (by simp) _ ti, ⟨p, q, k _ (by simp) _ to⟩, h1.at fun o e => k _ (by simp) o e, h2.at fun o e => k _ (by simp) o e⟩
  · obtain ⟨z, ti, to, h1, h2⟩ := st
    subst hP hw hK
    obtain ⟨xs, ys, hx, hy⟩ : ∃ xs ys : List V, SqT X.K H a xs ∧ SqL X.K H b ys := hg.elim (fun ⟨xs, ys, hx, hy, _⟩ => ⟨xs, ys, hx, hy⟩) fun ⟨xs, ys, hx, hy, _⟩ => ⟨xs, ys, hx, hy⟩
    obtain ⟨its, rv, p1, _⟩ := I.tuple hx
    obtain ⟨jts, rw', p2, _⟩ := I.list hy
    have d1 := Draws.tuple (prog := X.prog) (w := X.w) (A := X.A.in1) (I.ok.hd hc) N a (Nat.ne_of_lt ha) its.toArray
    have d2 := Draws.list (prog := X.prog) (w := X.w) (A := X.A.in1) (I.ok.hd hc) (N + 1) b (Nat.ne_of_lt (Nat.lt_succ_of_lt hb)) jts.toArray
    have sep := zip_sep2 (N := N) (fp1 := [a]) (fp2 := [b]) (fun c h => by rw [List.mem_singleton.mp h]; exact ha) (fun c h => by rw [List.mem_singleton.mp h]; exact hb)
    refine ⟨_, _, _, _, _, _, fun c h => ?_, WalksT.zipD2 sep d1 d2, ⟨z, ti, to, ⟨h1, p1⟩, h2, p2.isList⟩, fun ⟨us, vs, hu, hv, x, y, ex, ey⟩ => ?_, fun ⟨us, vs, hu, hv, hl⟩ => ?_, fun j h ⟨z', ti', to', h1', h2'⟩ => ⟨z', ti', to', h1'.1, h2'.1⟩⟩
    · simp only [List.mem_cons, List.not_mem_nil, or_false] at h ⊢
      rcases h with h | h | h | h <;> simp [h]
    · rw [I.tuple_inj hu hx] at ex
      rw [I.list_inj hv hy] at ey
      obtain ⟨v1, e1, r1⟩ := rv.get ex
      obtain ⟨v2, e2, r2⟩ := rw'.get ey
      refine ⟨Nat.lt_min.mpr ⟨by rw [List.size_toArray]; exact (List.getElem?_eq_some_iff.mp e1).1, by rw [List.size_toArray]; exact (List.getElem?_eq_some_iff.mp e2).1⟩, x, y, ⟨fun l hl => by rw [I.tuple_inj hl hx]; exact ex, fun l hl => by rw [I.list_inj hl hy]; exact ey⟩, fun vals ⟨z1, z2, g1, g2, ev⟩ => ?_⟩
      rw [List.getElem?_toArray] at g1 g2
      rw [e1] at g1
      rw [e2] at g2
      cases g1
      cases g2
      rw [ev]
      exact .cons r1 (.cons r2 .nil)
    · rw [List.size_toArray, List.size_toArray, ← hl, I.tuple_inj hu hx, I.list_inj hv hy, rv.length, rw'.length]
def iZipTL (K : PySem.W.Frag) (ta : TA) : TI := fun σ H R => ta σ H fun vs H1 => ∃ a b, vs = [.ref a, .ref b] ∧ (∃ xs ys, SqT K H1 a xs ∧ SqL K H1 b ys) ∧ R (ItzTL K a b) H1
theorem pi_zipTL0 {X : Cx} {e e2 : Expr} {ta : TA} {p pos tpos : Pos} {elts : List Expr} {kk : Nat} (hg : Gl X "zip") (hm : X.mg "zip" = none) (ha : PA X [e, e2] ta)
    (hs : starEach [e, e2] X.env = (false, eval e X.env) :: starEach [e2] X.env := by rfl) (hpl : (backTo pos (starEach [e2] X.env)).any (·.1) = false := by rfl) : PI X (.Tuple elts kk tpos) (.Call (.Name "zip" p) [e, e2] [] pos) (iZipTL X.K ta) where
  run := fun pins s σ H R I h => Call_ (ld_blt I hg hm PyProof.Rows.boot_zip (PyProof.Rows.callWith_type1 (thn (ha.run pos pins s σ H _ I h) fun us s1 ⟨vs, H1, I1, r1, a, b, ev, ⟨xs, ys, hx, hy⟩, q⟩ => by
    subst ev
    cases r1 with
    | cons r rr =>
      cases r
      cases rr with
      | cons r rr =>
        cases r
        cases rr
        obtain ⟨its, _, t1, _⟩ := I1.tuple hx
        obtain ⟨jts, _, t2, _⟩ := I1.list hy
        have ala : a < s1.heap.objs.size := by
          obtain ⟨_, e1, _⟩ := id t1
          exact Heap.lt_size e1
        refine zip_begins2 (begins_tuple a its.toArray) (begins_list b jts.toArray) t1 t2.isList fun h' z ti to g1 g2 _ hk => wpAny_pyIter_zip z ?_
        refine ⟨_, _, _, _, H1, rfl, I1.kept (t' := s1.toks) hk, turn_zipTL ala t2.lt, ⟨z, ti, ⟨_, _, to⟩, ⟨_, g1, rfl, rfl⟩, _, g2, rfl, rfl⟩, fun c hc => ?_, q⟩
        have big : s1.heap.objs.size ≤ c := by
          simp only [List.mem_cons, List.not_mem_nil, or_false] at hc
          rcases hc with z | z | z | z | z <;> rw [z] <;> first | exact Nat.le_add_right _ _ | exact Nat.le_refl _
        exact I1.fpOk big (I1.hok.fresh big)) hs hpl))
end RbZ
/-! ### dict(zip(t, u)): a zip whose last pair is still held -/
namespace RbD
open PySem PySem.Sem RZ
section
variable {prog : Program} {w : World} {A : Around} {E : Value → Shared → Prop} {s : Shared} {z TI TO T i1 i2 : Addr} {f : Bool} {oT : Obj}
/-- its next, down to the two iterators' -/
theorem held_next {Q : Fin → Shared → Prop} (hz : IsZipHeld s.heap z TI TO T f) (hT : s.heap.get? T = some oT) (ht : IsTupOf2 s.heap TI (.ref i1) (.ref i2))
    (k : ∀ h1, IsZipHeld h1 z TI TO T true → Heap.SameBut z s.heap h1 → wpAny (model prog w) A (Builtin.SmallTypes.nextOf (.ref i1)) (fun x s2 => wpAny (model prog w) A (Builtin.SmallTypes.nextOf (.ref i2)) (fun y s3 =>
      Q (.done (.ret (.ref s3.heap.objs.size))) { s3 with heap := s3.heap.push { cls := .type "tuple", data := .seq #[x, y] } }) E s2) E { s with heap := h1 }) : wpAny (model prog w) A (Builtin.«zip.__next__» ⟨[.ref z], []⟩) Q E s := by
  show wpAny (model prog w) A (field (.ref z) 2 >>= _) Q E s
  refine wpAny_bind (wpAny_field (x := .bool false) hz rfl rfl ?_)
  show wpAny (model prog w) A (field (.ref z) 3 >>= _) Q E s
  refine wpAny_bind (wpAny_field (x := .ref TI) hz rfl rfl (wpAny_bind (wpAny_seqItems ht rfl ?_)))
  show wpAny (model prog w) A (Builtin.SmallTypes.ownedTupleIsFree (.ref z) >>= _) Q E s
  refine wpAny_bind (wpAny_tupleHeld_zip hz hT fun h1 z1 b1 => ?_)
  rw [if_neg Bool.false_ne_true]
  refine wpAny_bind ?_
  rw [← Array.forIn_toList, List.forIn_cons]
  refine wpAny_bind (wpAny_bind (wpAny_holding ?_))
  show wpAny (model prog w) A (Builtin.SmallTypes.nextOf (.ref i1) >>= _) _ E _
  refine wpAny_bind (wpAny_mono (k h1 z1 b1) (fun x s2 k2 => wpAny_pure (wpAny_pure ?_)) fun _ _ e => e)
  dsimp only
  rw [List.forIn_cons]
  refine wpAny_bind (wpAny_bind (wpAny_holding ?_))
  show wpAny (model prog w) A (Builtin.SmallTypes.nextOf (.ref i2) >>= _) _ E s2
  refine wpAny_bind (wpAny_mono k2 (fun y s3 k3 => wpAny_pure (wpAny_pure (wpAny_pure ?_))) fun _ _ e => e)
  show wpAny (model prog w) A (newTuple [x, y] >>= _) Q E s3
  exact wpAny_bind (wpAny_newTuple (wpAny_pure k3))
variable {fp1 fp2 : List Addr} {n1 n2 i : Nat} {P1 P2 : Nat → Value → Prop} {S1 S2 : Nat → Heap → Prop}
theorem held_item {Q : Option Value → Shared → Prop} (S : ZipSep2 z TI TO i1 i2 fp1 fp2) (D1 : Draws prog w A.in1 i1 fp1 n1 P1 S1) (D2 : Draws prog w A.in1 i2 fp2 n2 P2 S2) (hz : IsZipHeld s.heap z TI TO T f) (hT : s.heap.get? T = some oT) (ht : IsTupOf2 s.heap TI (.ref i1) (.ref i2))
    (a1 : S1 i s.heap) (a2 : S2 i s.heap) (l1 : i < n1) (l2 : i < n2)
    (q : ∀ x y h' tk, P1 i x → P2 i y → IsZipHeld h' z TI TO T true → S1 (i + 1) h' → S2 (i + 1) h' → IsTupOf2 h' s.heap.objs.size x y → (∀ c o, c ≠ z ∧ c ≠ i1 ∧ c ≠ i2 → s.heap.get? c = some o → h'.get? c = some o) → Q (some (.ref s.heap.objs.size)) { s with heap := h', toks := tk }) :
    wpAny (model prog w) A (pyNext (.ref z)) Q E s := by
  have ty : s.TypeIs (.ref z) "zip" := ⟨_, hz, rfl⟩
  unfold pyNext
  refine wpAny_bind (wpAny_attempt (wpAny_callSpecial?_slot (name := Str.ofString "__next__") ty F.slot_zip_next (wpAny_call_entry F.slot_zip_next ty F.entry_zip_next (held_next hz hT ht fun h1 z1 b1 => ?_) (F.args_zip_next_1 _))))
  refine D1.item i _ _ _ l1 (D1.over a1 b1 S.zf1) fun x h2 tk p1 a1' b2 => D2.item i _ _ _ l2 (D2.over (D2.over a2 b1 S.zf2) b2 S.sep1_2) fun y h3 tk' p2 a2' b3 => ⟨_, rfl, wpAny_pure ?_⟩
  replace b1 : Heap.SameBut z s.heap h1 := b1
  replace b2 : Heap.SameBut i1 h1 h2 := b2
  replace b3 : Heap.SameBut i2 h2 h3 := b3
  have size : h3.objs.size = s.heap.objs.size := b3.1.trans (b2.1.trans b1.1)
  have new := Heap.get?_push_size h3 (o := { cls := .type "tuple", data := .seq #[x, y] }) rfl
  rw [size] at new
  show Q (some (.ref h3.objs.size)) _
  rw [size]
  exact q x y _ tk' p1 p2 (Heap.get?_push_of_some _ (b3.extBut z _ S.zi2 (b2.extBut z _ S.zi1 z1))) (D1.frame _ _ _ a1' fun c hc o e => Heap.get?_push_of_some _ (b3.extBut c o (fun g => S.sep2_1 (g ▸ hc)) e))
    (D2.frame _ _ _ a2' fun c _ o e => Heap.get?_push_of_some _ e) new fun c o ⟨c1, c2, c3⟩ e => Heap.get?_push_of_some _ (b3.extBut c o c3 (b2.extBut c o c2 (b1.extBut c o c1 e)))
theorem held_end {Q : Option Value → Shared → Prop} (S : ZipSep2 z TI TO i1 i2 fp1 fp2) (D1 : Draws prog w A.in1 i1 fp1 n1 P1 S1) (D2 : Draws prog w A.in1 i2 fp2 n2 P2 S2) (hz : IsZipHeld s.heap z TI TO T f) (hT : s.heap.get? T = some oT) (ht : IsTupOf2 s.heap TI (.ref i1) (.ref i2))
    (a1 : S1 (min n1 n2) s.heap) (a2 : S2 (min n1 n2) s.heap) (q : ∀ h' tk, (∀ c o, c ≠ z ∧ c ≠ i1 ∧ c ≠ i2 → s.heap.get? c = some o → h'.get? c = some o) → Q none { s with heap := h', toks := tk }) : wpAny (model prog w) A (pyNext (.ref z)) Q E s := by
  have ty : s.TypeIs (.ref z) "zip" := ⟨_, hz, rfl⟩
  unfold pyNext
  refine wpAny_bind (wpAny_attempt (wpAny_callSpecial?_slot (name := Str.ofString "__next__") ty F.slot_zip_next (wpAny_call_entry F.slot_zip_next ty F.entry_zip_next (held_next hz hT ht fun h1 z1 b1 => ?_) (F.args_zip_next_1 _))))
  replace b1 : Heap.SameBut z s.heap h1 := b1
  rcases Nat.lt_or_ge n2 n1 with l | l
  · rw [Nat.min_eq_right (Nat.le_of_lt l)] at a1 a2
    refine D1.item n2 _ _ _ l (D1.over a1 b1 S.zf1) fun x h2 tk _ _ b2 => D2.done _ _ _ (D2.over (D2.over a2 b1 S.zf2) b2 S.sep1_2) fun h3 ex b3 ⟨o, ho, oc⟩ => ?_
    exact wpAny_bind (wpAny_isInstance (b := true) (T := "StopIteration") ⟨o, ho, oc⟩ isSubtype_stop (wpAny_pure (q h3 tk fun c v ⟨c1, c2, c3⟩ e => b3 c v c3 (b2.extBut c v c2 (b1.extBut c v c1 e)))))
  · rw [Nat.min_eq_left l] at a1
    refine D1.done _ _ _ (D1.over a1 b1 S.zf1) fun h2 ex b2 ⟨o, ho, oc⟩ => ?_
    exact wpAny_bind (wpAny_isInstance (b := true) (T := "StopIteration") ⟨o, ho, oc⟩ isSubtype_stop (wpAny_pure (q h2 s.toks fun c v ⟨c1, c2, _⟩ e => b2 c v c2 (b1.extBut c v c1 e))))
end
section
variable {prog : Program} {w : World}
def zpTT (N a b i : Nat) (h : Heap) : Prop := h.IsTupleIter N a i ∧ h.IsTupleIter (N + 1) b i ∧ IsTupOf2 h (N + 2) (.ref N) (.ref (N + 1))
/-- the pair that was handed out last: none, or T, which is held -/
def zpOwn (N d : Nat) (h : Heap) : Prop := (IsZip h (N + 4) (N + 2) (N + 3) .none ∧ ∃ p q, IsTupOf2 h (N + 3) p q) ∨ ∃ (T : Addr) (f : Bool) (o : Obj), IsZipHeld h (N + 4) (N + 2) (N + 3) T f ∧ h.get? T = some o ∧ (T ≠ N + 4 ∧ T ≠ N ∧ T ≠ N + 1) ∧ T ≠ d
theorem src_tt {A : Around} (hA : A.handled = none) {N a b d : Nat} (ha : a < N) (hb : b < N) (hd : ∀ c ∈ [N + 4, N + 2, N + 3, N, N + 1, a, b], c ≠ d) (xs ys : Array Value) :
    PairSrc prog w A (N + 4) d [N + 4, N + 3, N, N + 1] (min xs.size ys.size) (fun i k v => xs[i]? = some k ∧ ys[i]? = some v) fun i h => zpTT N a b i h ∧ h.IsTuple a xs ∧ h.IsTuple b ys ∧ zpOwn N d h := by
  have sep := zip_sep2 (N := N) (fp1 := [a]) (fp2 := [b]) (fun c h => by rw [List.mem_singleton.mp h]; exact ha) (fun c h => by rw [List.mem_singleton.mp h]; exact hb)
  have d1 := Draws.tuple (prog := prog) (w := w) (A := A.in1) hA N a (Nat.ne_of_lt ha) xs
  have d2 := Draws.tuple (prog := prog) (w := w) (A := A.in1) hA (N + 1) b (Nat.ne_of_lt (Nat.lt_succ_of_lt hb)) ys
  have W := WalksT.zipD2 sep d1 d2
  have out : ∀ {c : Nat}, c ∉ [N + 4, N + 3, N, N + 1] → c ≠ N + 4 ∧ c ≠ N ∧ c ≠ N + 1 := fun h => ⟨fun e => h (by simp [e]), fun e => h (by simp [e]), fun e => h (by simp [e])⟩
  have tin : (N + 2 ≠ N + 4) ∧ (N + 2 ≠ N) ∧ (N + 2 ≠ N + 1) := by omega
  have aout : a ≠ N + 4 ∧ a ≠ N ∧ a ≠ N + 1 := by omega
  have bout : b ≠ N + 4 ∧ b ≠ N ∧ b ≠ N + 1 := by omega
  refine ⟨fun h => ?_, fun i h h' st k => ?_, fun i s Q E hi st hds q => ?_, fun s Q E st q => ?_⟩
  · simp only [List.mem_cons, List.not_mem_nil, or_false] at h
    rcases h with h | h | h | h <;> exact hd d (by simp [h]) rfl
  · obtain ⟨⟨h1, h2, ti⟩, ta, tb, own⟩ := st
    refine ⟨⟨h1.at fun o e => k _ o (hd _ (by simp)) e, h2.at fun o e => k _ o (hd _ (by simp)) e, k _ _ (hd _ (by simp)) ti⟩, ta.at fun o e => k _ o (hd _ (by simp)) e, tb.at fun o e => k _ o (hd _ (by simp)) e, ?_⟩
    rcases own with ⟨z, p, r, to⟩ | ⟨T, f, o, z, hT, ne, nd⟩
    · exact .inl ⟨k _ _ (hd _ (by simp)) z, p, r, k _ _ (hd _ (by simp)) to⟩
    · exact .inr ⟨T, f, o, k _ _ (hd _ (by simp)) z, k _ _ nd hT, ne, nd⟩
  · obtain ⟨⟨h1, h2, ti⟩, ta, tb, own⟩ := st
    have new : ∀ {c : Addr} {o : Obj}, s.heap.get? c = some o → s.heap.objs.size ≠ c := fun e => Nat.ne_of_gt (Heap.lt_size e)
    rcases own with ⟨z, to⟩ | ⟨T, f, o, z, hT, ne, nd⟩
    · refine W.item i s Q E hi ⟨z, ti, to, ⟨h1, ta⟩, h2, tb⟩ fun T vals h' tk ⟨x, y, ex, ey, ev⟩ hTs tup mid k => ?_
      obtain ⟨z', ti', _, ⟨h1', ta'⟩, ⟨h2', tb'⟩, n1, _, n3, n4⟩ := mid
      obtain ⟨o, ho, oc⟩ := id tup
      rw [ev] at tup
      exact q T x y h' tk ⟨ex, ey⟩ (.inl tup) ⟨⟨h1', h2', ti'⟩, ta', tb', .inr ⟨T, false, o, z', ho, ⟨n1, n3, n4⟩, fun e => Nat.lt_irrefl d (Nat.lt_of_lt_of_le hds (e ▸ hTs))⟩⟩ k
    · refine held_item sep d1 d2 z hT ti ⟨h1, ta⟩ ⟨h2, tb⟩ (Nat.lt_of_lt_of_le hi (Nat.min_le_left ..)) (Nat.lt_of_lt_of_le hi (Nat.min_le_right ..)) fun x y h' tk ex ey z' a1 a2 tup k => ?_
      exact q s.heap.objs.size x y h' tk ⟨ex, ey⟩ (.inl ⟨_, tup, rfl, _, rfl⟩) ⟨⟨a1.1, a2.1, k _ _ tin ti⟩, a1.2, a2.2, .inr ⟨T, true, o, z', k _ _ ne hT, ne, nd⟩⟩ fun c v hc e => k c v (out hc) e
  · obtain ⟨⟨h1, h2, ti⟩, ta, tb, own⟩ := st
    rcases own with ⟨z, to⟩ | ⟨T, f, o, z, hT, _, _⟩
    · exact W.done s Q E ⟨z, ti, to, ⟨h1, ta⟩, h2, tb⟩ q
    · exact held_end sep d1 d2 z hT ti ⟨h1, ta⟩ ⟨h2, tb⟩ fun h' tk k => q h' tk fun c v hc e => k c v (out hc) e
/-- zip(t, u) as the argument of dict() -/
theorem pairArg_tt {N a b : Nat} (ha : a < N) (hb : b < N) (xs ys : Array Value) : PairArg prog w "zip" (N + 4) [N + 4, N + 2, N + 3, N, N + 1, a, b] [N + 4, N + 3, N, N + 1] (min xs.size ys.size) (fun i k v => xs[i]? = some k ∧ ys[i]? = some v)
    fun h => (IsZip h (N + 4) (N + 2) (N + 3) .none ∧ ∃ p q, IsTupOf2 h (N + 3) p q) ∧ zpTT N a b 0 h ∧ h.IsTuple a xs ∧ h.IsTuple b ys where
  type := fun s ok => ⟨_, ok.1.1, rfl⟩
  notDict := by decide
  sub := fun c hc => by
    simp only [List.mem_cons, List.not_mem_nil, or_false] at hc ⊢
    rcases hc with h | h | h | h <;> simp [h]
  keep := fun h h' ⟨⟨z, p, q, to⟩, ⟨h1, h2, ti⟩, ta, tb⟩ k => ⟨⟨k _ _ z, p, q, k _ _ to⟩, ⟨h1.at fun o => k _ o, h2.at fun o => k _ o, k _ _ ti⟩, ta.at fun o => k _ o, tb.at fun o => k _ o⟩
  there := fun h ⟨⟨z, p, q, to⟩, ⟨⟨o1, h1, _⟩, ⟨o2, h2, _⟩, ti⟩, ⟨o3, h3, _⟩, o4, h4, _⟩ c hc => by
    simp only [List.mem_cons, List.not_mem_nil, or_false] at hc
    rcases hc with e | e | e | e | e | e | e <;> rw [e] <;> first | exact ⟨_, z⟩ | exact ⟨_, ti⟩ | exact ⟨_, to⟩ | exact ⟨_, h1⟩ | exact ⟨_, h2⟩ | exact ⟨_, h3⟩ | exact ⟨_, h4⟩
  noKeys := fun A s Q E hA ok q => getAttrOr_miss_zip ok.1.1 rfl rfl rfl zip_no_keys (by decide +kernel) hA q
  iter := fun A s d Q E hA ⟨own, st, ta, tb⟩ _ hd q => wpAny_pyIter_zip own.1 (q _ _ _ s.heap s.toks (src_tt hA ha hb (fun c hc e => hd (by rw [← e]; exact hc)) xs ys) ⟨st, ta, tb, .inl own⟩ (fun _ _ e => e) fun c hc => .inl hc)
end
end RbD
end
section
set_option Elab.async false
set_option linter.all false
set_option autoImplicit false
set_option maxRecDepth 100000
set_option maxHeartbeats 4000000
namespace Rb
open PySem PySem.Spec PyProof.Rows L2
/-! ### t[::-1], t a tuple -/
section
variable {prog : Program} {w : World} {A : Around} {E : Value → Shared → Prop} {s : Shared}
theorem rev_pick (xs : Array Value) : ((List.range xs.size).filterMap fun (m : Nat) => xs[(((xs.size : Int) - 1) + (m : Int) * (-1)).toNat]?).toArray = xs.toList.reverse.toArray := by
  congr 1
  refine List.ext_getElem? fun i => ?_
  have e : ((List.range xs.size).filterMap fun (m : Nat) => xs[(((xs.size : Int) - 1) + (m : Int) * (-1)).toNat]?) = (List.range xs.size).attach.map fun m => xs[xs.size - 1 - m.1]'(by have := List.mem_range.mp m.2; omega) := by
    have key : ∀ l : List Nat, (hl : ∀ m ∈ l, m < xs.size) → (l.filterMap fun (m : Nat) => xs[(((xs.size : Int) - 1) + (m : Int) * (-1)).toNat]?) = l.attach.map fun m => xs[xs.size - 1 - m.1]'(by have := hl m.1 m.2; omega) := by
      intro l
      induction l with
      | nil => intro _; rfl
      | cons a l ih =>
        intro hl
        have ha := hl a List.mem_cons_self
        have e1 : (((xs.size : Int) - 1) + (a : Int) * (-1)).toNat = xs.size - 1 - a := by omega
        rw [List.filterMap_cons, e1, Array.getElem?_eq_getElem (by omega)]
        show _ :: _ = _
        rw [ih fun m hm => hl m (List.mem_cons_of_mem _ hm), List.attach_cons, List.map_cons, List.map_map]
        rfl
    exact key _ fun m hm => List.mem_range.mp hm
  rw [e]
  by_cases hi : i < xs.size
  · rw [List.getElem?_map, List.getElem?_reverse (by simpa using hi), List.getElem?_eq_getElem (by simpa using hi)]
    simp
  · rw [List.getElem?_eq_none (by simpa using hi), List.getElem?_eq_none (by simpa using hi)]
theorem getItem_tuple_rev {t sl : Addr} {items : Array Value} {k : Tok} {Q : Value → Shared → Prop} (ht : IsTup s.heap t items) (hs : s.heap.IsSliceOf sl .none .none (.int (-1) k))
    (h : Q (.ref s.heap.objs.size) { s with heap := s.heap.push { cls := .type "tuple", data := .seq items.toList.reverse.toArray } })
    (hsz : items.size ≤ sizeLine) : wpAny (model prog w) A (getItem (.ref t) (.ref sl)) Q E s := by
  have htake : sizeOk (.seq items.toList.reverse.toArray) := by
    show items.toList.reverse.toArray.size ≤ sizeLine
    simpa using hsz
  obtain ⟨os, hos, hcs, hds⟩ := id hs
  have hTs : s.TypeIs (.ref sl) "slice" := ⟨os, hos, hcs⟩
  unfold getItem
  try with_reducible refine wpAny_holding ?_
  first | refine wpAny_bind (wpAny_pure ?_) | skip
  refine wpAny_bind (wpAny_sequenceKey ht.typeIs (by decide) ?_)
  refine wpAny_bind (wpAny_callSpecial?_slot (name := Str.ofString "__getitem__") ht.typeIs PyProof.Rows.slot_tuple_getitem
    (wpAny_call_entry PyProof.Rows.slot_tuple_getitem ht.typeIs entry_tuple_getitem ?_ (args_tuple_getitem _ _)))
  show wpAny _ _ (Builtin.Tuple.tupleItemsOf (.ref t) >>= _) _ _ s
  refine wpAny_bind (tupleItemsOf_ ht ?_)
  refine wpAny_bind (wpAny_typeOf hTs ?_)
  rw [if_pos (by decide)]
  have q1 : ∀ A E, wpAny (model prog w) A (Builtin.Slice.sliceApplied (.ref sl) (pure (items.size : Int))) (fun r s' => r = ((items.size : Int) - 1, -1, items.size) ∧ s' = s) E s := by
    intro A E
    unfold Builtin.Slice.sliceApplied Builtin.Slice.sliceFields
    refine wpAny_bind (wpAny_bind (wpAny_field hos hds (x := .none) rfl (wpAny_bind (wpAny_field hos hds (x := .none) rfl (wpAny_bind (wpAny_field hos hds (x := .int (-1) k) rfl (wpAny_pure ?_)))))))
    refine wpAny_bind (slicePart_int ?_)
    show wpAny _ _ (if ((-1 : Int) == 0) = true then _ else _) _ _ s
    rw [if_neg (by decide)]
    refine wpAny_bind (slicePart_none (wpAny_bind (slicePart_none (wpAny_bind (wpAny_pure ?_)))))
    refine wpAny_pure ⟨?_, rfl⟩
    show ((items.size : Int) - 1, (-1 : Int), Builtin.Slice.slicePlaces ((items.size : Int) - 1) (-1) (-1)) = _
    have e : Builtin.Slice.slicePlaces ((items.size : Int) - 1) (-1) (-1) = items.size := by
      unfold Builtin.Slice.slicePlaces
      simp
      split <;> omega
    rw [e]
  refine wpAny_bind (wpAny_mono (q1 _ _) ?_ fun _ _ e => e)
  rintro _ _ ⟨rfl, rfl⟩
  show wpAny _ _ (if ((((items.size : Int) - 1) == 0 && (-1 : Int) == 1 && (items.size == items.size)) = true) then _ else _) _ _ _
  rw [if_neg (by simp), rev_pick]
  first
    | exact wpAny_bind (m := Builtin.Tuple.tupleExact _) (wpAny_newObj_type (wpAny_pure ⟨_, rfl, wpAny_pure h⟩) htake)
    | exact wpAny_bind (m := Builtin.Tuple.tupleExact _) (wpAny_newObj_type (wpAny_bind (wpAny_pure (wpAny_pure ⟨_, rfl, wpAny_pure h⟩))) htake)
    | exact wpAny_bind (wpAny_bind (m := Builtin.Tuple.tupleExact _) (wpAny_newObj_type (wpAny_pure (wpAny_pure ⟨_, rfl, wpAny_pure h⟩)) htake))
    | exact wpAny_bind (wpAny_bind (m := Builtin.Tuple.tupleExact _) (wpAny_newObj_type (wpAny_pure ⟨_, rfl, wpAny_pure h⟩) htake))
end
section
variable {X : Cx}
def tRevT (K : PySem.W.Frag) (te : TE) : TE := fun σ H Q => te σ H fun x H1 => ∃ a xs, x = .ref a ∧ SqT K H1 a xs ∧ ∀ p, H1 p = none → Q (.ref p) (upd H1 p (.tup xs.reverse))
theorem pe_revT (K : PySem.W.Frag) {e : Expr} {te : TE} {k : Nat} {p1 p2 p3 pos : Pos} (he : PE X e te) (hK : X.K = K := by rfl) : PE X (.Subscript e (.Slice none none (some (.UnaryOp .USub (.Constant (.int 1) k p1) p2)) p3) pos) (tRevT K te) := by
  subst hK
  refine ⟨fun pins s σ H Q I h => ?_⟩
  refine Subscript_ (thn (he.run pins s σ H _ I h) fun v s1 ⟨x, H1, I1, r1, q1⟩ => ?_)
  obtain ⟨a, xs, ex, hx, q⟩ := q1
  subst ex
  cases r1
  have hst : PO X (some (.UnaryOp .USub (.Constant (.int 1) k p1) p2)) (tPart (tUn (rU fun i => .int (-i)) (tC (.int 1)))) := po_some (pe_un un_neg pe_int)
  refine wpAny_Slice (thn (po_none.run pins s1 σ H1 (fun o H2 => o = none ∧ H2 = H1) I1 ⟨rfl, rfl⟩) fun vl s2 ⟨l, H2, I2, pl, el, e2⟩ => ?_)
  subst el e2
  refine thn (po_none.run pins s2 σ H2 (fun o H3 => o = none ∧ H3 = H2) I2 ⟨rfl, rfl⟩) fun vu s3 ⟨u, H3, I3, pu, eu, e3⟩ => ?_
  subst eu e3
  refine thn (hst.run pins s3 σ H3 (fun o H4 => o = some (-1) ∧ H4 = H3) I3 ⟨1, rfl, -1, rfl, rfl, rfl⟩) fun vs s4 ⟨o, H4, I4, ps, eo, e4⟩ => ?_
  subst eo e4
  have I5 : L2.Inv X pins σ H4 { s4 with heap := s4.heap.push { cls := .type "slice", data := .fields #[vl, vu, vs] } } := I4.kept (t' := s4.toks) fun b ob q => Heap.get?_push_of_some _ q
  obtain ⟨its, r, ht, hz⟩ := I5.tuple hx
  have hlen := r.length
  cases pl
  cases pu
  cases ps with
  | int i tk =>
  show wpAny (model X.prog X.w) X.A (subscriptTail e (.Slice none none (some (.UnaryOp .USub (.Constant (.int 1) k p1) p2)) p3) (.ref a) (.ref s4.heap.objs.size)) (EP X pins σ Q) X.xe { s4 with heap := s4.heap.push { cls := .type "slice", data := .fields #[.none, .none, .int (-1) tk] } }
  refine tail_any (ops := [.ref a, .ref s4.heap.objs.size]) ht.typeIs (PyProof.Rows.slot_tuple_getitem.lookup) ?_ (by with_unfolding_all rfl)
  refine getItem_tuple_rev ht (Heap.IsSliceOf.new _ .none .none (.int (-1) tk)) ?_ (by rw [List.size_toArray]; omega)
  refine ⟨.ref _, _, I5.laid (t' := s4.toks) (o := .tup xs.reverse) (fun b ob q => Heap.get?_push_of_some _ q) (Nat.le_refl _) ?_, rfl, q _ (I5.hok.fresh (Nat.le_refl _))⟩
  exact ⟨by rw [List.length_reverse]; exact hz, its.reverse, r.reverse, IsTup.new _ _⟩
end
end Rb
end
section
set_option Elab.async false
set_option linter.all false
set_option autoImplicit false
set_option maxRecDepth 100000
set_option maxHeartbeats 4000000
namespace Rb
open PySem PySem.Spec PyProof.Rows L2
section
variable {X : Cx} {o e e2 : Expr} {ta : TA} {p pos tpos : Pos} {elts : List Expr} {kk : Nat}
theorem pi_enumT (K : PySem.W.Frag) (hg : Gl X "enumerate") (hm : X.mg "enumerate" = none) (ha : PA X [e] ta) (hs : starEach [e] X.env = [(false, eval e X.env)] := by rfl) (h : X.K = K := by rfl) :
    PI X (.Tuple elts kk tpos) (.Call (.Name "enumerate" p) [e] [] pos) (RbI.iEnumT K ta) := by subst h; exact RbI.pi_enumT0 hg hm ha hs
theorem pi_zipTL (K : PySem.W.Frag) (hg : Gl X "zip") (hm : X.mg "zip" = none) (ha : PA X [e, e2] ta)
    (hs : starEach [e, e2] X.env = (false, eval e X.env) :: starEach [e2] X.env := by rfl) (hpl : (backTo pos (starEach [e2] X.env)).any (·.1) = false := by rfl) (h : X.K = K := by rfl) :
    PI X (.Tuple elts kk tpos) (.Call (.Name "zip" p) [e, e2] [] pos) (RbZ.iZipTL K ta) := by subst h; exact RbZ.pi_zipTL0 hg hm ha hs hpl
end
/-! ### sorted(t), t a tuple of ints -/
section
variable {prog : Program} {w : World} {A : Around} {E : Value → Shared → Prop} {s : Shared}
/-- h1: the heap ahead of the new list -/
theorem sorted_tup {l : Addr} {vs : List Value} {ns : List Int} {Q : Value → Shared → Prop} (tup : s.heap.IsTuple l vs.toArray) (hi : IntsAre vs ns) (few : vs.length < 64)
    (q : ∀ (h1 h2 : Heap) (out : Array Value) (e : Nat) (ms : List Int), (∀ c v, s.heap.get? c = some v → h1.get? c = some v) → (∀ c v, h1.get? c = some v → h2.get? c = some v) → h2.get? h1.objs.size = some (seqObj "list" out e) →
      IntsAre out.toList ms → ms.Perm ns → ms.Pairwise (· ≤ ·) → Q (.ref h1.objs.size) { s with heap := h2 }) : wpAny (model prog w) A (call (.builtin "sorted") [.ref l]) Q E s := Calls.call_function_entry kind_sorted plain_sorted entry_sorted (args_sorted1 _) <| by
  obtain ⟨o, ho, oc, n, od⟩ := tup
  have size : vs.length ≤ sizeLine := by rw [sizeLine_eq]; omega
  unfold Builtin.«sorted»
  refine wpAny_bind (m := checkCount "sorted" 1 1 _) (wpAny_pure (wpAny_bind (wpAny_collect_seq l (.inr rfl) ho oc od (fun h1 k1 => wpAny_bind (wpAny_newList ?_ size)) size)))
  have new : (h1.push (seqObj "list" vs.toArray 0)).get? h1.objs.size = some (seqObj "list" vs.toArray 0) := Heap.get?_push_size _ rfl
  refine wpAny_bind (wpAny_holding (wpAny_call_entry (T := "list") slot_list_sort ⟨_, new, rfl⟩ entry_list_sort (list_sort_tree new hi few fun out ms a1 a2 a3 => ⟨_, rfl, wpAny_pure ⟨_, rfl, ?_⟩⟩) (args_list_sort _)))
  obtain ⟨e, at_⟩ := sortedHeap_at (vs := vs) (out := out) new
  exact q h1 _ out e ms k1 (fun c v hc => (sortedHeap_old (Nat.ne_of_lt (Heap.lt_size hc)) (by rw [size_push']; exact Nat.lt_succ_of_lt (Heap.lt_size hc))).trans (Heap.get?_push_of_some _ hc)) at_ a1 a2 a3
end
section
variable {X : Cx}
def rSortedTu (K : PySem.W.Frag) : List V → Hp → VK → Prop := fun vs H Q => ∃ (a : Addr) (ns : List Int), vs = [V.ref a] ∧ SqT K H a (ns.map V.int) ∧ ns.length < 64 ∧
  ∀ (ns' : List Int) (p : Addr), ns'.Perm ns → ns'.Pairwise (· ≤ ·) → H p = none → Q (.ref p) (upd H p (.lst (ns'.map V.int)))
theorem cr_sortedTu (K : PySem.W.Frag) (hK : X.K = K := by rfl) : CallR X (.builtin "sorted") (rSortedTu K) := by
  subst hK
  intro pins s σ H vs us Q I r h
  obtain ⟨a, ns, rfl, hs, h64, q⟩ := h
  obtain ⟨its, rv, hl, _⟩ := I.tuple hs
  rw [Vals.ref1 r]
  have hi := rv.ints
  refine sorted_tup (show s.heap.IsTuple a its.toArray from hl) hi (by rw [hi.length]; exact h64) fun h1 h2 out e ms k1 k2 new h3 perm up => ?_
  have I1 := I.kept (t' := s.toks) k1
  have len : (ms.map V.int).length ≤ sizeLine := by rw [List.length_map, perm.length_eq]; exact small64 h64
  exact ⟨.ref h1.objs.size, upd H h1.objs.size (.lst (ms.map V.int)), I1.laid (t' := s.toks) (o := .lst (ms.map V.int)) k2 (Nat.le_refl _) ⟨len, out.toList, e, vals_of_ints h3, new⟩, rfl, q ms _ perm up (I1.hok.fresh (Nat.le_refl _))⟩

/-! ### the least of pairs -/
def prD (p : Int × Int) : PyData := .tuple [.int p.1, .int p.2]
def ltPr (p q : Int × Int) : Bool := decide (p.1 < q.1 ∨ (p.1 = q.1 ∧ p.2 < q.2))
theorem ltPr_data (p q : Int × Int) : PySem.W.dataLt (prD p) (prD q) = ltPr p q := by
  have h : PySem.W.dataLt (prD p) (prD q) = PySem.W.DatumOrd.lt (α := Int × Int) p q := PySem.W.DatumOrd.lt_eq (α := Int × Int) p q
  rw [h]
  show (if p.1 = q.1 then decide (p.2 < q.2) else decide (p.1 < q.1)) = _
  unfold ltPr
  split
  · rename_i e
    rw [decide_eq_decide]; omega
  · rename_i e
    rw [decide_eq_decide]; omega
theorem alike_pr (p q : Int × Int) : PySem.W.alike (prD p) (prD q) = true := PySem.W.DatumOrd.alike (α := Int × Int) p q
theorem depth_pr (p : Int × Int) : (prD p).depth = 1 := by
  simp only [prD, PyData.depth, PyData.depthAll]
  rfl
theorem vals_at {xs : List V} {us : List Value} (r : Vals xs us) {i : Nat} {u : Value} (h : us[i]? = some u) : ∃ x, xs[i]? = some x ∧ RelV x u := by
  induction r generalizing i with
  | nil => cases h
  | cons h1 _ ih =>
    cases i with
    | zero => cases h; exact ⟨_, rfl, h1⟩
    | succ i => exact ih h
theorem minD_prs (x : Int × Int) : ∀ xs : List (Int × Int), ∃ q ∈ x :: xs, PySem.W.minD (prD x) (xs.map prD) = prD q ∧ ∀ p ∈ x :: xs, q.1 ≤ p.1 := fun xs => by
  induction xs generalizing x with
  | nil => exact ⟨x, List.mem_cons_self, rfl, fun p hp => by rcases List.mem_cons.mp hp with rfl | hp; exact Int.le_refl _; cases hp⟩
  | cons y ys ih =>
    have e : PySem.W.minD (prD x) ((y :: ys).map prD) = PySem.W.minD (if PySem.W.dataLt (prD y) (prD x) then prD y else prD x) (ys.map prD) := rfl
    rw [e, ltPr_data]
    by_cases c : ltPr y x = true
    · rw [if_pos c]
      obtain ⟨q, hq, h1, h2⟩ := ih y
      refine ⟨q, List.mem_cons_of_mem _ hq, h1, fun p hp => ?_⟩
      rcases List.mem_cons.mp hp with rfl | hp
      · have := h2 y List.mem_cons_self
        have c' := of_decide_eq_true c
        omega
      · exact h2 p hp
    · rw [if_neg c]
      obtain ⟨q, hq, h1, h2⟩ := ih x
      refine ⟨q, ?_, h1, fun p hp => ?_⟩
      · rcases List.mem_cons.mp hq with rfl | hq
        · exact List.mem_cons_self
        · exact List.mem_cons_of_mem _ (List.mem_cons_of_mem _ hq)
      · rcases List.mem_cons.mp hp with rfl | hp
        · exact h2 _ List.mem_cons_self
        · rcases List.mem_cons.mp hp with rfl | hp
          · have := h2 x List.mem_cons_self
            have c' : ¬ (p.1 < x.1 ∨ (p.1 = x.1 ∧ p.2 < x.2)) := fun z => c (decide_eq_true z)
            omega
          · exact h2 p (List.mem_cons_of_mem _ hp)
theorem prs_alike (l : List (Int × Int)) : PySem.W.AlikeAll (l.map prD) := ⟨fun a ha b hb => by
  obtain ⟨p, _, rfl⟩ := List.mem_map.mp ha
  obtain ⟨q, _, rfl⟩ := List.mem_map.mp hb
  exact alike_pr p q, fun a ha e => by
  obtain ⟨p, _, rfl⟩ := List.mem_map.mp ha
  cases e⟩
theorem depth_prs : ∀ l : List (Int × Int), PyData.depthAll (l.map prD) ≤ 1
  | [] => by simp [PyData.depthAll]
  | p :: l => by
    simp only [List.map_cons, PyData.depthAll]
    have := depth_prs l
    have := depth_pr p
    omega
theorem reps_at {R : Hp} {xs : List V} {ds : List PyData} (h : Reps R xs ds) {i : Nat} {x : V} (hx : xs[i]? = some x) : ∃ d, ds[i]? = some d ∧ Rep R x d := by
  induction xs generalizing ds i with
  | nil => cases hx
  | cons a xs ih =>
    cases h with
    | cons h1 h2 =>
      cases i with
      | zero => cases hx; exact ⟨_, rfl, h1⟩
      | succ i => exact ih h2 hx
def rMinPairs (K : PySem.W.Frag) : List V → Hp → VK → Prop := fun vs H Q => ∃ (a : Addr) (xs : List V) (R : Hp) (prs : List (Int × Int)), vs = [V.ref a] ∧ SqL K H a xs ∧ Same R H ∧ Reps R xs (prs.map prD) ∧ prs ≠ [] ∧
  ∀ (v : V) (q : Int × Int), q ∈ prs → (∀ p ∈ prs, q.1 ≤ p.1) → Rep R v (prD q) → Q v H
theorem cr_minPairs (K : PySem.W.Frag) (hc : X.calm = true) (hu : X.A.units + 64 < cLine) (hK : X.K = K := by rfl) : CallR X (.builtin "min") (rMinPairs K) := by
  subst hK
  intro pins s σ H vs us Q I r h
  obtain ⟨a, xs, R, prs, rfl, hs, e, hr, hne, q⟩ := h
  obtain ⟨its, rv, hl, _⟩ := I.list hs
  rw [Vals.ref1 r]
  cases prs with
  | nil => exact absurd rfl hne
  | cons x prs =>
    obtain ⟨as, ra⟩ := reps_reads I e _ _ _ hr rv
    refine PySem.W.min_list_data (vs := its.toArray) (x := prD x) (xs := prs.map prD) (I.ok.hd hc) hl.isList (by simpa using ra) (prs_alike (x :: prs)) (by have := depth_prs (x :: prs); simp only [List.map_cons] at this; omega) fun i v h' tk bs hi hv hk => ?_
    obtain ⟨y, hy, ry⟩ := vals_at rv (i := i) (by simpa using hi)
    obtain ⟨d, hd, rd⟩ := reps_at hr hy
    have I' : L2.Inv X pins σ H { s with heap := h', toks := tk } := I.kept hk
    obtain ⟨bs', rd'⟩ := rep_reads I' e _ _ _ rd ry
    obtain ⟨m, hm, e1, e2⟩ := minD_prs x prs
    rw [e1] at hv
    obtain ⟨pp, hpp, rfl⟩ : ∃ pp ∈ x :: prs, d = prD pp := by
      obtain ⟨pp, h1, h2⟩ := List.mem_map.mp (List.mem_of_getElem? hd)
      exact ⟨pp, h1, h2.symm⟩
    have e3 : prD pp = prD m := PySem.W.alike_unique _ _ _ _ _ (alike_pr pp m) rd' hv
    rw [e3] at rd
    exact ⟨y, H, I', ry, q y m hm e2 rd⟩
def rMin2P : List V → Hp → VK → Prop := fun vs H Q => ∃ (x y : V) (R : Hp) (p q : Int × Int), vs = [x, y] ∧ Same R H ∧ Rep R x (prD p) ∧ Rep R y (prD q) ∧ Q (if ltPr q p then y else x) H
theorem call_minT2 (hc : X.calm = true) (hu : X.A.units + 64 < cLine) : CallR X (.builtin "min") rMin2P := by
  intro pins s σ H vs us Q I r h
  obtain ⟨x, y, R, p, q, rfl, e, rx, ry, hq⟩ := h
  obtain ⟨u, u', rfl, r1, r2⟩ := vals2 r
  obtain ⟨as, ra⟩ := rep_reads I e _ _ _ rx r1
  obtain ⟨bs, rb⟩ := rep_reads I e _ _ _ ry r2
  have hT : (s.heap.push { cls := .type "tuple", data := .seq #[u, u'] }).IsTuple s.heap.objs.size #[u, u'] := ⟨_, Heap.get?_push_size _ rfl, rfl, 0, rfl⟩
  have k0 : ∀ b o, s.heap.get? b = some o → (s.heap.push { cls := .type "tuple", data := .seq #[u, u'] }).get? b = some o := fun b o q => Heap.get?_push_of_some _ q
  have hr : ReadsAll (Shared.heap { s with heap := s.heap.push { cls := .type "tuple", data := .seq #[u, u'] } }) (#[u, u'] : Array Value).toList [prD p, prD q] (as ++ (bs ++ [])) := .cons (PySem.W.reads_keeps k0 ra) (.cons (PySem.W.reads_keeps k0 rb) .nil)
  have hh := I.ok.hd hc
  refine rb_min_twoH (PySem.W.iter_tupleW (A := X.A.in1) (s := { s with heap := s.heap.push { cls := .type "tuple", data := .seq #[u, u'] } }) hh hT fun s₂ e2 W st hfp hw hk => ?_)
  refine ⟨_, _, _, _, _, _, _, s.heap.push { cls := .type "tuple", data := .seq #[u, u'] }, _, rfl, W, st, hfp, by simp, hw, hk, PySem.W.cmpIn_lt (A := X.A.in1) (s := { s with heap := s.heap.push { cls := .type "tuple", data := .seq #[u, u'] } }) hr (prs_alike [p, q]) (by have := depth_prs [p, q]; simp only [List.map_cons, List.map_nil] at this; show X.A.units + 1 + _ < cLine; omega), fun v s' hP m => ?_⟩
  obtain ⟨h', tk, e', hk'⟩ := PySem.W.moved_old e2 rfl m
  subst e'
  have I' : L2.Inv X pins σ H { s with heap := h', toks := tk } := I.kept fun b o q => hk' b o (k0 b o q)
  have hv : v = if ltPr q p then u' else u := by
    have z : (#[u, u'] : Array Value)[argBest (fun i j => PySem.W.dataLt ([prD p, prD q].getD i .none) ([prD p, prD q].getD j .none)) 1]? = some v := hP
    have e0 : argBest (fun i j => PySem.W.dataLt ([prD p, prD q].getD i .none) ([prD p, prD q].getD j .none)) 1 = if ltPr q p then 1 else 0 := by
      show (if PySem.W.dataLt (prD q) (prD p) then 1 else 0) = _
      rw [ltPr_data]
    rw [e0] at z
    by_cases c : ltPr q p = true
    · rw [if_pos c] at z ⊢
      exact (Option.some.inj z).symm
    · rw [if_neg c] at z ⊢
      exact (Option.some.inj z).symm
  refine ⟨if ltPr q p then y else x, H, I', ?_, hq⟩
  rw [hv]
  by_cases c : ltPr q p = true
  · rw [if_pos c, if_pos c]; exact r2
  · rw [if_neg c, if_neg c]; exact r1

/-! ### {k: v}, k a tuple -/
def tDispT (tk tv : TE) : TE := fun σ H Q => ∀ p, H p = none → tk σ (upd H p (.dT [])) fun x H1 => tv σ H1 fun y H2 => H2 p = some (.dT []) ∧ ∃ b ks, x = .ref b ∧ H2 b = some (.tup (List.map kV ks)) ∧ Q (.ref p) (upd H2 p (.dT [(ks, y)]))
theorem pe_dispT {k v : Expr} {tk tv : TE} {pos : Pos} (hu : X.A.units + 1 < cLine) (hk : PE X k tk) (hv : PE X v tv) : PE X (.Dict [some k] [v] pos) (tDispT tk tv) := by
  refine ⟨fun pins s σ H Q I q => ?_⟩
  have hn := I.hok.fresh (Nat.le_refl s.heap.objs.size)
  have I1 := I.laid (a := s.heap.objs.size) (o := .dT []) (h' := s.heap.push { cls := .type "dict", data := .dict #[] }) (t' := s.toks) (fun _ _ q => Heap.get?_push_of_some _ q) (Nat.le_refl _) (dt_empty s.heap I.big)
  have hl : (pairTrees [some k] [v] X.env pos).length = 1 := rfl
  rw [arm_eval_Dict, zip_pairTrees [some k] [v] X.env pos rfl rfl, dictDisplay_pairs (pairTrees [some k] [v] X.env pos) (by intro z; rw [z] at hl; cases hl) (by omega)]
  refine wpAny_bind (wpAny_standAt (wpAny_bind (wpAny_subDictH (knd := tupleKind (mixKind X.prog X.w)) (Q := fun d s' => wpAny (model X.prog X.w) X.A (pure (Value.ref d)) (EP X pins σ Q) X.xe s') (show X.A.units < cLine by omega) (by omega) ?_)))
  refine pairTrees_cons_walk (thn (hk.run pins _ σ _ _ I1 (q _ hn)) fun u s1 ⟨x, H1, I1', rx, q1⟩ => thn (hv.run pins s1 σ H1 _ I1' q1) fun u2 s2 ⟨y, H2, I2, ry, q2⟩ => pairTrees_nil_walk ?_)
  obtain ⟨e0, b, ks, rfl, eb, q2⟩ := q2
  cases (show u = Value.ref b from rx)
  obtain ⟨z, hd, xs, rel, dd⟩ := dt_of I2.hok e0
  cases rel
  refine ⟨[(ks, b, u2)], ⟨rfl, rfl, key_of I2.hok eb, True.intro⟩, dd, fun h' tk2 dd' hs => wpAny_pure ⟨.ref s.heap.objs.size, _, ?_, rfl, q2⟩⟩
  obtain ⟨o, es, ep, hq, h2, h3, h4, _, h5⟩ := dd'
  have hne : b ≠ s.heap.objs.size := fun z => by rw [z, e0] at eb; cases eb
  refine d_write I2 (by rw [e0]; exact True.intro) hs ⟨o, hq⟩ ⟨by show 1 ≤ sizeLine; decide, hd, [(ks, b, u2)], .cons ⟨rfl, ?_, ry⟩ .nil, o, es, ep, hq, h2, h3, h4, h5⟩
  rw [upd_ne hne]; exact eb
end
end Rb
end
section
set_option Elab.async false
set_option linter.all false
set_option autoImplicit false
set_option maxRecDepth 100000
set_option maxHeartbeats 4000000
namespace Rb
open PySem PySem.Spec PyProof.Rows L2 RZ
section
variable {X : Cx}
abbrev kI : Int → L2.Key := Sum.inl
/-- dict(zip(t, u)), t a tuple of ints -/
def tDictZip (K : PySem.W.Frag) (ta tb : TE) : TE := fun σ H Q => tCons ta (tCons tb tNil) σ H fun vs H2 => ∃ (a b : Addr) (ns : List Int) (ys : List V), vs = [.ref a, .ref b] ∧ SqT K H2 a (ns.map V.int) ∧ SqT K H2 b ys ∧ ns.length = ys.length ∧ ∀ p, H2 p = none → Q (.ref p) (upd H2 p (.dK (mergeK [] ((ns.map kI).zip ys))))
theorem kv_zip : ∀ (ns : List Int) {ys : List V} {us : List Value}, Vals ys us → KV ((ns.map kI).zip ys) ((ns.map kI).zip us)
  | [], _, _, _ => .nil
  | n :: ns, _, _, .nil => .nil
  | n :: ns, _, _, .cons h t => .cons ⟨rfl, h⟩ (kv_zip ns t)
theorem pe_dictZip (K : PySem.W.Frag) {a b : Expr} {ta tb : TE} {p p2 q pos : Pos} (hc : X.calm = true) (hg : Gl X "dict") (hm : X.mg "dict" = none) (hg2 : Gl X "zip") (hm2 : X.mg "zip" = none) (ha : PE X a ta) (hb : PE X b tb)
    (hs : starEach [a, b] X.env = (false, eval a X.env) :: starEach [b] X.env := by rfl) (hs2 : starEach [b] X.env = (false, eval b X.env) :: starEach [] X.env := by rfl) (hpl : ∀ pos, (backTo pos (starEach [b] X.env)).any (·.1) = false := by intro _; rfl) (hK : X.K = K := by rfl) :
    PE X (.Call (.Name "dict" p) [.Call (.Name "zip" p2) [a, b] [] q] [] pos) (tDictZip K ta tb) := by
  subst hK
  refine ⟨fun pins s σ H Q I h => ?_⟩
  refine Call_ (ld_blt I hg hm (show bootBuiltins "dict" = some (.type "dict") by decide +kernel) ?_)
  refine PyProof.Rows.callWith_type1 (PyProof.Rows.args_cons ?_ rfl) rfl rfl
  refine Call_ (ld_blt I hg2 hm2 PyProof.Rows.boot_zip (PyProof.Rows.callWith_type1 (thn ((pa_cons ha (pa_cons hb pa_nil (hs := hs2)) (hs := hs)).run q pins s σ H _ I h) fun us s1 ⟨vs, H1, I1, r1, q1⟩ => ?_) hs (hpl q)))
  obtain ⟨al, bl, ns, ys, e0, q1⟩ := q1
  subst e0
  cases r1 with
  | cons r rr =>
    cases rr with
    | cons r' rr =>
      cases rr
      obtain ⟨hqx, hqy, hlen, q1⟩ := q1
      cases r
      cases r'
      obtain ⟨its, rv, p1, hz1⟩ := I1.tuple hqx
      obtain ⟨its2, rv2, p2', hz2⟩ := I1.tuple hqy
      have t1 : s1.heap.IsTuple al its.toArray := p1
      have t2 : s1.heap.IsTuple bl its2.toArray := p2'
      obtain ⟨o1, ho1, _⟩ := id t1
      obtain ⟨o2, ho2, _⟩ := id t2
      refine call_zipT t1 t2 fun h' hz hTI hTO h1 h2 hsz hk => ?_
      refine PyProof.Rows.args_nil ?_
      have hi := rv.ints
      have hl1 : its.length = ns.length := by rw [← hi.length]
      have hl2 : its2.length = ys.length := rv2.length.symm
      have I2 : L2.Inv X pins σ H1 { s1 with heap := h' } := I1.kept (t' := s1.toks) hk
      have P := RbD.pairArg_tt (prog := X.prog) (w := X.w) (Heap.lt_size ho1) (Heap.lt_size ho2) its.toArray its2.toArray
      have hmin : min its.toArray.size its2.toArray.size = ns.length := by
        rw [List.size_toArray, List.size_toArray, hl1, hl2, hlen]
        exact Nat.min_self _
      refine call_dict_pairs (knd := mixKind X.prog X.w) (kvs := (ns.map kI).zip its2) P (I1.ok.hd hc) ⟨⟨hz, _, _, hTO⟩, ⟨h1, h2, hTI⟩, t1.at fun o e => hk _ o e, t2.at fun o e => hk _ o e⟩ ⟨?_, fun i key v hr => ?_⟩ ?_ fun h2' tk hd hk2 => ?_
      · rw [hmin, List.length_zip, List.length_map, hl2, hlen]
        exact Nat.min_self _
      · obtain ⟨e1, e2⟩ := hr
        have e1' : its[i]? = some key := by simpa using e1
        have e2' : its2[i]? = some v := by simpa using e2
        obtain ⟨y, hy, ry⟩ := vals_at rv e1'
        rw [List.getElem?_map] at hy
        obtain ⟨n, hn, rfl⟩ := Option.map_eq_some_iff.mp hy
        refine ⟨.inl n, ?_, kV_is ry⟩
        rw [List.getElem?_zip_eq_some]
        exact ⟨by rw [List.getElem?_map, hn] <;> rfl, e2'⟩
      · rw [hmin]
        have := hz1
        rw [List.length_map] at this
        exact this
      · have hfr : ∀ c o, s1.heap.get? c = some o → h2'.get? c = some o := fun c o e => by
          have hlt := Heap.lt_size e
          refine hk2 c o ?_ (hk c o e)
          intro hm
          simp only [List.mem_cons, List.not_mem_nil, or_false] at hm
          rcases hm with z | z | z | z <;> rw [z] at hlt <;> first | exact absurd hlt (Nat.not_lt_of_le (Nat.le_add_right _ _)) | exact absurd hlt (Nat.lt_irrefl _)
        have hge : s1.heap.objs.size ≤ h'.objs.size := by omega
        have hlm : (mergeK [] ((ns.map kI).zip ys)).length ≤ sizeLine := by
          have z1 := length_mergeK ((ns.map kI).zip ys) []
          rw [List.length_nil, List.length_zip, List.length_map] at z1
          have z2 := hz2
          omega
        have hnm : (h'.objs.size == sysModules) = false := beq_eq_false_iff_ne.mpr (Nat.ne_of_gt (Nat.lt_of_lt_of_le I1.big hge))
        exact ⟨.ref h'.objs.size, upd H1 h'.objs.size (.dK (mergeK [] ((ns.map kI).zip ys))), I1.laid (t' := tk) hfr hge (show ObjOk X.prog X.w _ _ _ (.dK _) from ⟨hlm, hnm, _, KV.merge (kv_zip ns rv2) .nil, hd⟩), rfl, q1 _ (I1.hok.fresh hge)⟩
end
end Rb
end
section
set_option Elab.async false
set_option linter.all false
set_option maxRecDepth 100000
set_option maxHeartbeats 4000000
namespace Rb
open PySem L2
section
variable {c : Kx} {H0 R0 : Hp} {Ms : MS} {As : AS} {ta tb te : TE} {A B : Asr} {K : PySem.W.Frag} {d e : PyData} {t u : TT} {D : Ends} {C : L2.St → Hp → Prop}
/-! ### strictly rising lists -/
theorem rising_unique : ∀ {a b : List Int}, a.Pairwise (· < ·) → b.Pairwise (· < ·) → (∀ x, x ∈ a ↔ x ∈ b) → a = b
  | [], [], _, _, _ => rfl
  | [], y :: _, _, _, h => absurd ((h y).mpr List.mem_cons_self) (by simp)
  | x :: _, [], _, _, h => absurd ((h x).mp List.mem_cons_self) (by simp)
  | x :: a, y :: b, ha, hb, h => by
    obtain ⟨a1, a2⟩ := List.pairwise_cons.mp ha
    obtain ⟨b1, b2⟩ := List.pairwise_cons.mp hb
    have e : x = y := by
      rcases List.mem_cons.mp ((h x).mp List.mem_cons_self) with e | m
      · exact e
      · rcases List.mem_cons.mp ((h y).mpr List.mem_cons_self) with e | m2
        · exact e.symm
        · have := b1 x m
          have := a1 y m2
          omega
    subst e
    rw [rising_unique a2 b2 fun z => ?_]
    constructor
    · intro m
      rcases List.mem_cons.mp ((h z).mp (List.mem_cons_of_mem _ m)) with e | m2
      · subst e; exact absurd (a1 z m) (Int.lt_irrefl z)
      · exact m2
    · intro m
      rcases List.mem_cons.mp ((h z).mpr (List.mem_cons_of_mem _ m)) with e | m2
      · subst e; exact absurd (b1 z m) (Int.lt_irrefl z)
      · exact m2
theorem el_sortedSet {ns ms : List Int} (h : Ev c Ms As ta (dp (.tuple (intsD ns)))) (hl : ns.length < 63) (hm : ms.Pairwise (· < ·)) (he : ∀ k, k ∈ ms ↔ k ∈ ns) : EvL c Ms As (tSortedSet K ta) (intsD ms) := fun σ H R s Q q =>
  h.bind s fun v H1 R1 g1 s1 a => by
    cases a with
    | tup a1 a2 =>
      have e := a2.toInts
      subst e
      refine ⟨_, ns, rfl, .inl (.inl (s1.wf.sub _ _ a1)), hl, fun ms' p hp hk hn => ?_⟩
      have e : ms' = ms := rising_unique hp hm fun k => (hk k).trans (he k).symm
      subst e
      exact q p _ _ R1 (g1.trans s.wf (.lay g1.wf hn)) (g1.back hn) (g1.wf.none hn) upd_same (.of_ints _)
theorem nodup_same_len {a b : List Int} (ha : a.Nodup) (hb : b.Nodup) (h : ∀ x, x ∈ a ↔ x ∈ b) : a.length = b.length := ((List.perm_ext_iff_of_nodup ha hb).mpr h).length_eq
theorem ev_lenSetT {ns ms : List Int} (h : Ev c Ms As ta (dp (.tuple (intsD ns)))) (hl : ns.length < 63) (hm : ms.Nodup) (he : ∀ k, k ∈ ms ↔ k ∈ ns) : Ev c Ms As (tLenSetT K ta) (dp (.int (ms.length : Int))) := fun σ H R s Q q =>
  h.bind s fun v H1 R1 g1 s1 a => by
    cases a with
    | tup a1 a2 =>
      have e := a2.toInts
      subst e
      refine ⟨_, ns, rfl, .inl (.inl (s1.wf.sub _ _ a1)), hl, fun ms' hp hk => ?_⟩
      rw [nodup_same_len hp hm fun k => (hk k).trans (he k).symm]
      exact q _ H1 R1 g1 (.int _)
theorem el_sortedRev {Ms' : MS} {ns ms : List Int} (h : Ev c Ms As te (lsA Ms' (intsD ns))) (hp : ms.Perm ns) (hm : ms.Pairwise (· ≥ ·)) (hs : Ms' ⊆ Ms := by first | exact List.nil_subset _ | exact List.Subset.refl _ | simp) :
    EvL c Ms As (tCKw (rSortedKw K true [.bl true]) (tCons te tNil) (tCons (tC (.bl true)) tNil)) (intsD ms) := fun σ H R s Q q =>
  h.bind s fun v H1 R1 g1 s1 a => by
    obtain ⟨p, vs, rfl, e1, r⟩ := lsA.at_ a hs s1.wf s1.mu
    have e := r.toInts
    subst e
    refine ⟨p, ns, rfl, rfl, .inl (.inl e1), fun ns' p' pe pw hn => ?_⟩
    have e : ns' = ms := (pe.trans hp.symm).eq_of_pairwise (le := fun x y : Int => x ≥ y) (fun x y _ _ h1 h2 => by omega) pw hm
    subst e
    exact q p' _ _ R1 (g1.trans s.wf (.lay g1.wf hn)) (g1.back hn) (g1.wf.none hn) upd_same (.of_ints _)
theorem el_sortedTu {ns ms : List Int} (h : Ev c Ms As ta (dp (.tuple (intsD ns)))) (hl : ns.length < 64) (hp : ms.Perm ns) (hm : ms.Pairwise (· ≤ ·)) : EvL c Ms As (tCB (rSortedTu K) (tCons ta tNil)) (intsD ms) :=
  el_cb1 h fun H R x w m a Q q => by
    cases a with
    | tup a1 a2 =>
      have e := a2.toInts
      subst e
      refine ⟨_, ns, rfl, .inl (.inl (w.sub _ _ a1)), hl, fun ns' p' pe pw hn => ?_⟩
      have e : ns' = ms := sorted_unique (pe.trans hp.symm) pw hm
      subst e
      exact q p' _ _ R (.lay w hn) hn (w.none hn) upd_same (.of_ints _)
theorem ev_maxT {ns : List Int} {k : Int} (h : Ev c Ms As ta (dp (.tuple (intsD ns)))) (h1 : k ∈ ns) (h2 : ∀ y ∈ ns, y ≤ k) : Ev c Ms As (tCB (rMaxT K) (tCons ta tNil)) (dp (.int k)) :=
  ev_cb1 h fun H R x w m a Q q => by
    cases a with
    | tup e1 r =>
      have e := r.toInts
      subst e
      refine ⟨_, ns, rfl, .inl (.inl (w.sub _ _ e1)), List.length_pos_of_mem h1, fun m' hm hle => ?_⟩
      have : m' = k := by have := hle k h1; have := h2 m' hm; omega
      rw [this]
      exact q _ H R (.refl w) (.int _)

/-! ### lists of tuples of ints, sorted: only that they are the same -/
theorem tups_alike (ks : List (List Int)) : PySem.W.AllAlike (ks.map fun k => PyData.tuple (intsD k)) := fun d hd d' hd' => by
  obtain ⟨k, _, rfl⟩ := List.mem_map.mp hd
  obtain ⟨k', _, rfl⟩ := List.mem_map.mp hd'
  simp only [PySem.W.alike]
  exact PySem.W.alikeAll_map (α := Int) k k'
theorem depth_ints : ∀ k : List Int, PyData.depthAll (intsD k) = 0
  | [] => rfl
  | n :: k => by
    show PyData.depthAll (.int n :: intsD k) = 0
    simp only [PyData.depthAll, PyData.depth, depth_ints k]
    rfl
theorem map_perm_inv {α β : Type} {f : α → β} : ∀ {l' : List β} {m : List β}, l'.Perm m → ∀ {l : List α}, m = l.map f → ∃ k : List α, k.Perm l ∧ l' = k.map f := fun h => by
  induction h with
  | nil =>
    intro l e
    cases l with
    | nil => exact ⟨[], List.Perm.nil, rfl⟩
    | cons _ _ => cases e
  | cons x _ ih =>
    intro l e
    cases l with
    | nil => cases e
    | cons a l =>
      rw [List.map_cons] at e
      injection e with e1 e2
      obtain ⟨k, h1, h2⟩ := ih e2
      exact ⟨a :: k, h1.cons a, by rw [List.map_cons, h2, e1]⟩
  | swap x y l0 =>
    intro l e
    cases l with
    | nil => cases e
    | cons a l =>
      cases l with
      | nil => cases e
      | cons b l =>
        rw [List.map_cons, List.map_cons] at e
        injection e with e1 e2
        injection e2 with e2 e3
        exact ⟨b :: a :: l, List.Perm.swap _ _ _, by rw [List.map_cons, List.map_cons, e1, e2, e3]⟩
  | trans _ _ ih1 ih2 =>
    intro l e
    obtain ⟨k, h1, h2⟩ := ih2 e
    obtain ⟨k2, h3, h4⟩ := ih1 h2
    exact ⟨k2, h3.trans h1, h4⟩
/-- the answer: a new list of the same tuples; given as an own list -/
def EvLX (c : Kx) (Ms : MS) (As : AS) (te : TE) (P : List PyData → Prop) : Prop := ∀ σ H R, Sit c Ms As σ H R → ∀ Q : VK, (∀ p vs ds H' R', P ds → Grow c H R H' R' → H p = none → R' p = none → H' p = some (.lst vs) → Reps R' vs ds → Q (.ref p) H') → te σ H Q
theorem elx_sortedTups {Ms' : MS} {ks : List (List Int)} (h : Ev c Ms As ta (lsA Ms' (ks.map fun k => .tuple (intsD k)))) (hne : ∀ k ∈ ks, k ≠ []) (hs : Ms' ⊆ Ms := by first | exact List.nil_subset _ | exact List.Subset.refl _ | simp) :
    EvLX c Ms As (tCB (rSortedD K) (tCons ta tNil)) fun ds => ∃ ks' : List (List Int), ks'.Perm ks ∧ ds = ks'.map fun k => .tuple (intsD k) := fun σ H R s Q q =>
  h.bind s fun v H1 R1 g1 s1 a => by
    obtain ⟨p, vs, rfl, e1, r⟩ := lsA.at_ a hs s1.wf s1.mu
    refine ⟨p, vs, R1, _, rfl, .inl (.inl e1), s1.wf.sub, r, tups_alike ks, .inl fun d hd => ?_, fun d hd => ?_, fun ys p' ry hn => ?_⟩
    · obtain ⟨k, hk, rfl⟩ := List.mem_map.mp hd
      cases k with
      | nil => exact absurd rfl (hne _ hk)
      | cons n k => exact ⟨_, _, rfl⟩
    · obtain ⟨k, hk, rfl⟩ := List.mem_map.mp hd
      simp only [PyData.depth, depth_ints]
      decide
    · obtain ⟨k, h1, h2⟩ := map_perm_inv (List.mergeSort_perm (ks.map fun k => PyData.tuple (intsD k)) (PySem.W.dataLe false id)) rfl
      rw [h2] at ry
      exact q p' ys _ _ R1 ⟨k, h1, rfl⟩ (g1.trans s.wf (.lay g1.wf hn)) (g1.back hn) (g1.wf.none hn) upd_same ry
/-- pairs, by the first -/
def pairK (R : Hp) : V → Int × Int
  | .ref a => match R a with
    | some (.tup [.int i, .int j]) => (i, j)
    | _ => (0, 0)
  | _ => (0, 0)
theorem pairK_rep {R : Hp} {v : V} {p : Int × Int} (h : Rep R v (prD p)) : pairK R v = p ∧ ∃ t, v = .ref t ∧ R t = some (.tup [.int p.1, .int p.2]) := by
  cases h with
  | tup h1 h2 =>
    have e := Reps.toInts (ns := [p.1, p.2]) h2
    subst e
    exact ⟨by show (match R _ with | some (.tup [.int i, .int j]) => (i, j) | _ => (0, 0)) = p; rw [h1]; rfl, _, rfl, h1⟩
theorem reps_prs {R : Hp} : ∀ {ps : List (Int × Int)} {vs : List V}, Reps R vs (ps.map prD) → vs.map (pairK R) = ps ∧ ∀ v ∈ vs, Rep R v (prD (pairK R v))
  | [], _, h => by cases h; exact ⟨rfl, fun v hv => absurd hv (by simp)⟩
  | p :: ps, _, h => by
    cases h with
    | cons h1 h2 =>
      obtain ⟨e1, e2⟩ := reps_prs h2
      have e0 := (pairK_rep h1).1
      refine ⟨by rw [List.map_cons, e0, e1], fun v hv => ?_⟩
      rcases List.mem_cons.mp hv with rfl | hv
      · rw [e0]; exact h1
      · exact e2 v hv
theorem reps_of_prs {R : Hp} : ∀ {vs : List V}, (∀ v ∈ vs, Rep R v (prD (pairK R v))) → Reps R vs ((vs.map (pairK R)).map prD)
  | [], _ => .nil
  | v :: vs, h => .cons (h v List.mem_cons_self) (reps_of_prs fun u hu => h u (List.mem_cons_of_mem _ hu))
theorem elx_sortedPrs {Ms' : MS} {ps : List (Int × Int)} (h : Ev c Ms As ta (lsA Ms' (ps.map prD))) (hs : Ms' ⊆ Ms := by first | exact List.nil_subset _ | exact List.Subset.refl _ | simp) :
    EvLX c Ms As (tCB (rSortedPO K) (tCons ta tNil)) fun ds => ∃ ps' : List (Int × Int), ps'.Perm ps ∧ ps'.Pairwise (fun x y => x.1 < y.1 ∨ (x.1 = y.1 ∧ x.2 ≤ y.2)) ∧ ds = ps'.map prD := fun σ H R s Q q =>
  h.bind s fun v H1 R1 g1 s1 a => by
    obtain ⟨p, vs, rfl, e1, r⟩ := lsA.at_ a hs s1.wf s1.mu
    obtain ⟨z1, z2⟩ := reps_prs r
    refine ⟨p, vs, pairK R1, rfl, .inl (.inl e1), fun x hx => ?_, fun ys p' h1 h2 hn => ?_⟩
    · obtain ⟨_, t, e, ht⟩ := pairK_rep (z2 x hx)
      exact ⟨t, e, s1.wf.sub _ _ ht⟩
    · have pe : ys.Perm vs := h2.perm
      refine q p' ys _ _ R1 ⟨ys.map (pairK R1), by rw [← z1]; exact pe.map _, ?_, rfl⟩ (g1.trans s.wf (.lay g1.wf hn)) (g1.back hn) (g1.wf.none hn) upd_same (reps_of_prs fun v hv => z2 v (pe.mem_iff.mp hv))
      refine List.pairwise_map.mpr (List.Pairwise.imp ?_ h1)
      intro x y hxy
      have := SrtO.lexB_no.mp hxy
      omega
/-- freeze it -/
theorem EvLX.ev {P : List PyData → Prop} (h : EvLX c Ms As te P) : Ev c Ms As te (exA P fun ds => dp (.list ds)) := fun σ H R s Q q =>
  h σ H R s Q fun p vs ds H' R' hP g h0 hr hp r => q _ H' (upd R' p (.lst vs)) (g.freeze s.wf h0 hp hr) ⟨ds, hP, .lst upd_same (r.mono (same_new hr))⟩
theorem Ev.exle {ι κ : Type} {P : ι → Prop} {F : ι → Asr} {P' : κ → Prop} {F' : κ → Asr} (h : Ev c Ms As te (exA P F)) (k : ∀ i, P i → ∃ j, P' j ∧ ∀ R v, (F i).h R v → (F' j).h R v) : Ev c Ms As te (exA P' F') :=
  h.le fun R v ⟨i, hi, hv⟩ => let ⟨j, hj, hf⟩ := k i hi; ⟨j, hj, hf R v hv⟩

/-! ### the least of pairs -/
theorem ev_minPairs {Ms' : MS} {ps : List (Int × Int)} (h : Ev c Ms As ta (lsA Ms' (ps.map prD))) (hne : ps ≠ []) (hs : Ms' ⊆ Ms := by first | exact List.nil_subset _ | exact List.Subset.refl _ | simp) :
    Ev c Ms As (tCB (rMinPairs K) (tCons ta tNil)) (exA (fun q => q ∈ ps ∧ ∀ p ∈ ps, q.1 ≤ p.1) fun q => dp (prD q)) :=
  ev_cb1 h fun H R x w m a Q q => by
    obtain ⟨p, vs, rfl, e1, r⟩ := lsA.at_ a hs w m
    exact ⟨p, vs, R, ps, rfl, .inl (.inl e1), w.sub, r, hne, fun v z h1 h2 h3 => q v H R (.refl w) ⟨z, ⟨h1, h2⟩, h3⟩⟩
theorem ev_minT2 {p q : Int × Int} (h : Ev c Ms As ta (dp (prD p))) (h' : Ev c Ms As tb (dp (prD q))) : Ev c Ms As (tCB rMin2P (tCons ta (tCons tb tNil))) (dp (prD (if ltPr q p then q else p))) :=
  ev_cb2 h h' fun H R x y w m a b Q k => by
    refine ⟨x, y, R, p, q, rfl, w.sub, a, b, k _ H R (.refl w) ?_⟩
    by_cases z : ltPr q p = true
    · rw [if_pos z, if_pos z]; exact b
    · rw [if_neg z, if_neg z]; exact a
/-- t[n] of one that is told by a letter -/
theorem ev_ixTX {ι : Type} {P : ι → Prop} {f : ι → List PyData} {g : ι → PyData} (n : Nat) (ha : Ev c Ms As ta (exA P fun i => dp (.tuple (f i)))) (hb : Ev c Ms As tb (dp (.int (n : Int)))) (hi : ∀ i, P i → (f i)[n]? = some (g i)) :
    Ev c Ms As (tOp (rIxT K) ta tb) (exA P fun i => dp (g i)) :=
  ev_op ha hb fun H R x y w m a b Q q => by
    cases b
    obtain ⟨i, hP, a⟩ := a
    have a' : Rep R x (.tuple (f i)) := a
    cases a' with
    | tup h1 r =>
      obtain ⟨v, hv, rv⟩ := r.get (hi i hP)
      exact ⟨_, _, (n : Int), v, rfl, rfl, .inl (.inl (w.sub _ _ h1)), by
        show L2.atI _ _ = _
        unfold L2.atI
        have hl := (List.getElem?_eq_some_iff.mp hv).1
        rw [show ixN _ (n : Int) = some n by unfold ixN; rw [if_pos (by omega), if_pos (by omega)]; simp]
        exact hv, q v H R (.refl w) ⟨i, hP, rv⟩⟩

/-! ### reversed tuples; walks -/
theorem ev_revT {ds : List PyData} (h : Ev c Ms As te (dp (.tuple ds))) : Ev c Ms As (tRevT K te) (dp (.tuple ds.reverse)) := fun σ H R s Q q =>
  h.bind s fun v H1 R1 g1 s1 a => by
    cases a with
    | tup a1 a2 => exact ⟨_, _, rfl, .inl (.inl (s1.wf.sub _ _ a1)), fun p hp => q _ _ _ (g1.trans s.wf (.new g1.wf hp)) (.tup upd_same (a2.reverse.mono (same_new (g1.wf.none hp))))⟩
theorem wk_enumT {R : Hp} {a : Addr} {vs : List V} {ds : List PyData} (ha : R a = some (.tup vs)) (r : Reps R vs ds) : Wk c (RbI.IteT K a) R (enD ds) := by
  have sq : ∀ {H1 R1 : Hp}, Wf c H1 R1 → Same R R1 → SqT K H1 a vs := fun w e => .inl (.inl (w.sub _ _ (e _ _ ha)))
  refine ⟨fun i H1 R1 hi w e => ?_, fun H1 R1 w e => ⟨vs, sq w e, by rw [enD_len, r.length]⟩, fun i d H1 R1 x H2 hd w e y => ?_⟩
  · rw [enD_len] at hi
    exact ⟨vs, sq w e, _, List.getElem?_eq_getElem (show i < vs.length by rw [r.length]; exact hi)⟩
  · obtain ⟨T, x1, z, rfl, hT, rfl, rfl, y⟩ := y
    obtain ⟨x, hx, rfl⟩ := enD_get hd
    obtain ⟨v, hv, rv⟩ := r.get hx
    have h2 := y vs (sq w e)
    rw [hv] at h2
    cases h2
    exact ⟨_, .new w hT, .tup upd_same (.cons (.int _) (.cons ((rv.mono e).mono (same_new (w.none hT))) .nil))⟩
theorem ei_enumT {ds : List PyData} (h : Ev c Ms As te (dp (.tuple ds))) : EvI c Ms As (RbI.iEnumT K (tCons te tNil)) (enD ds) := fun σ H R s Rk q =>
  h.bind s fun v H1 R1 g1 s1 a => by
    cases a with
    | tup a1 a2 => exact ⟨_, rfl, ⟨_, .inl (.inl (s1.wf.sub _ _ a1))⟩, q _ H1 R1 g1 (wk_enumT a1 a2)⟩
def zipD (ds es : List PyData) : List PyData := (ds.zip es).map fun p => .tuple [p.1, p.2]
theorem zipD_len {ds es : List PyData} (h : ds.length = es.length) : (zipD ds es).length = ds.length := by simp [zipD, h]
theorem zipD_get {ds es : List PyData} {i : Nat} {d : PyData} (h : (zipD ds es)[i]? = some d) : ∃ x y, ds[i]? = some x ∧ es[i]? = some y ∧ d = .tuple [x, y] := by
  unfold zipD at h
  rw [List.getElem?_map] at h
  obtain ⟨⟨x, y⟩, h1, h2⟩ := Option.map_eq_some_iff.mp h
  rw [List.getElem?_zip_eq_some] at h1
  exact ⟨x, y, h1.1, h1.2, h2.symm⟩
theorem ei_zipTT {ds es : List PyData} (h : Ev c Ms As ta (dp (.tuple ds))) (h' : Ev c Ms As tb (dp (.tuple es))) (hl : ds.length = es.length) : EvI c Ms As (RZ.iZipA K (tCons ta (tCons tb tNil))) (zipD ds es) := fun σ H R s Rk q =>
  h.bind s fun v H1 R1 g1 s1 a => h'.bind s1 fun v' H2 R2 g2 s2 b => by
    have a' := Rep.mono g2.rr _ _ a
    cases a' with
    | tup a1 a2 =>
      cases b with
      | tup b1 b2 =>
        rename_i pa va pb vb
        refine ⟨_, _, _, _, rfl, .inr ⟨.inl (.inl (s2.wf.sub _ _ a1)), .inl (.inl (s2.wf.sub _ _ b1)), q _ H2 R2 (g1.trans s.wf g2) ⟨fun i H3 R3 hi w e => ?_, fun H3 R3 w e => ?_, fun i d H3 R3 x H4 hd w e y => ?_⟩⟩⟩
        · rw [zipD_len hl] at hi
          have l1 := a2.length
          have l2 := b2.length
          exact ⟨va, vb, va[i]'(by omega), vb[i]'(by omega), .inl (.inl (w.sub _ _ (e _ _ a1))), .inl (.inl (w.sub _ _ (e _ _ b1))), List.getElem?_eq_getElem _, List.getElem?_eq_getElem _⟩
        · exact ⟨va, vb, .inl (.inl (w.sub _ _ (e _ _ a1))), .inl (.inl (w.sub _ _ (e _ _ b1))), .inl (by rw [zipD_len hl, a2.length]; exact Nat.le_refl _)⟩
        · obtain ⟨T, z1, z2, rfl, hT, rfl, y1, y2⟩ := y
          obtain ⟨x, y, hx, hy, rfl⟩ := zipD_get hd
          obtain ⟨v1, hv1, rv1⟩ := a2.get hx
          obtain ⟨v2, hv2, rv2⟩ := b2.get hy
          have h1 := y1 va (.inl (.inl (w.sub _ _ (e _ _ a1))))
          have h2 := y2 vb (.inl (.inl (w.sub _ _ (e _ _ b1))))
          rw [hv1] at h1
          rw [hv2] at h2
          cases h1
          cases h2
          exact ⟨_, .new w hT, .tup upd_same (.cons ((rv1.mono e).mono (same_new (w.none hT))) (.cons ((rv2.mono e).mono (same_new (w.none hT))) .nil))⟩
theorem ei_zipTL {ds es : List PyData} (h : Ev c Ms As ta (dp (.tuple ds))) (h' : Ev c Ms As tb (dp (.list es))) (hl : ds.length = es.length) : EvI c Ms As (RbZ.iZipTL K (tCons ta (tCons tb tNil))) (zipD ds es) := fun σ H R s Rk q =>
  h.bind s fun v H1 R1 g1 s1 a => h'.bind s1 fun v' H2 R2 g2 s2 b => by
    have a' := Rep.mono g2.rr _ _ a
    cases a' with
    | tup a1 a2 =>
      cases b with
      | lst b1 b2 =>
        rename_i pa va pb vb
        refine ⟨_, _, rfl, ⟨_, _, .inl (.inl (s2.wf.sub _ _ a1)), .inl (.inl (s2.wf.sub _ _ b1))⟩, q _ H2 R2 (g1.trans s.wf g2) ⟨fun i H3 R3 hi w e => ?_, fun H3 R3 w e => ?_, fun i d H3 R3 x H4 hd w e y => ?_⟩⟩
        · rw [zipD_len hl] at hi
          have l1 := a2.length
          have l2 := b2.length
          exact ⟨va, vb, .inl (.inl (w.sub _ _ (e _ _ a1))), .inl (.inl (w.sub _ _ (e _ _ b1))), va[i]'(by omega), vb[i]'(by omega), List.getElem?_eq_getElem _, List.getElem?_eq_getElem _⟩
        · exact ⟨va, vb, .inl (.inl (w.sub _ _ (e _ _ a1))), .inl (.inl (w.sub _ _ (e _ _ b1))), by rw [zipD_len hl, a2.length, b2.length, ← hl, Nat.min_self]⟩
        · obtain ⟨T, z1, z2, rfl, hT, rfl, y1, y2⟩ := y
          obtain ⟨x, y, hx, hy, rfl⟩ := zipD_get hd
          obtain ⟨v1, hv1, rv1⟩ := a2.get hx
          obtain ⟨v2, hv2, rv2⟩ := b2.get hy
          have h1 := y1 va (.inl (.inl (w.sub _ _ (e _ _ a1))))
          have h2 := y2 vb (.inl (.inl (w.sub _ _ (e _ _ b1))))
          rw [hv1] at h1
          rw [hv2] at h2
          cases h1
          cases h2
          exact ⟨_, .new w hT, .tup upd_same (.cons ((rv1.mono e).mono (same_new (w.none hT))) (.cons ((rv2.mono e).mono (same_new (w.none hT))) .nil))⟩

/-! ### dicts that are made at once -/
theorem en_dispT {k : List Int} {tk tv : TE} (hk : ∀ p, Ev c ((p, .dT []) :: Ms) As tk (dp (.tuple (intsD k)))) (hv : ∀ p, Ev c ((p, .dT []) :: Ms) As tv (dp d)) : EvN c Ms As (tDispT tk tv) (.dT [(k, d)]) := fun σ H R s Q q p hp => by
  have g0 : Grow c H R (upd H p (.dT [])) R := .lay s.wf hp
  have s0 : Sit c ((p, .dT []) :: Ms) As σ (upd H p (.dT [])) R := s.own g0 hp (s.wf.none hp) ⟨[], upd_same, .nil⟩
  refine (hk p).bind s0 fun x H1 R1 g1 s1 a => (hv p).bind s1 fun y H2 R2 g2 s2 b => ?_
  obtain ⟨es, h1, h2⟩ := s2.mu.ok (p, .dT []) List.mem_cons_self
  cases h2
  have hn : R2 p = none := s2.mu.hid (p, .dT []) List.mem_cons_self
  have hA : p ∉ c.A0 := s2.mu.off (p, .dT []) List.mem_cons_self
  have a' := Rep.mono g2.rr _ _ a
  cases a' with
  | tup a1 a2 =>
    have e := a2.toInts
    subst e
    refine ⟨h1, _, k.map .inl, rfl, by rw [kV_ints]; exact s2.wf.sub _ _ a1, ?_⟩
    have g := (g0.trans' g1).trans' g2
    refine q p _ R2 ⟨fun x u hx h => ?_, g.rr, g.fr, ⟨fun x u h => ?_, s2.wf.av, c.loc (fun x hx => upd_ne fun z => hA (by rw [← z]; exact hx)) s2.wf.j⟩⟩ hp hn ⟨_, upd_same, .cons ⟨rfl, b⟩ .nil⟩
    · rw [upd_ne (ne_of_none h hp)]; exact g.gr x u hx h
    · rw [upd_ne (ne_of_none h hn)]; exact s2.wf.sub x u h
theorem repK_zip {R : Hp} : ∀ (ns : List Int) {vs : List V} {ds : List PyData}, Reps R vs ds → RepK R ((ns.map kI).zip vs) (ns.zip ds)
  | [], _, _, _ => .nil
  | n :: ns, _, _, .nil => .nil
  | n :: ns, _, _, .cons h t => .cons ⟨rfl, h⟩ (repK_zip ns t)
theorem mergeK_fresh {acc more : List (Key × V)} (h : ((acc ++ more).map Prod.fst).Nodup) : mergeK acc more = acc ++ more := by
  induction more generalizing acc with
  | nil => simp [mergeK]
  | cons p more ih =>
    show mergeK (putK acc p.1 p.2) more = _
    have e : putK acc p.1 p.2 = acc ++ [p] := by
      unfold putK
      rw [if_neg]
      intro z
      obtain ⟨q, hq, e⟩ := List.any_eq_true.mp z
      have e' := of_decide_eq_true e
      rw [List.map_append, List.nodup_append] at h
      exact h.2.2 q.1 (List.mem_map_of_mem hq) p.1 (by simp) e'
    rw [e, ih (by rw [List.append_assoc]; exact h), List.append_assoc]
    rfl
theorem en_dictZip {ns : List Int} {ds : List PyData} (h : Ev c Ms As ta (dp (.tuple (intsD ns)))) (h' : Ev c Ms As tb (dp (.tuple ds))) (hl : ns.length = ds.length) (hn : ns.Nodup) : EvN c Ms As (tDictZip K ta tb) (.dK (ns.zip ds)) := fun σ H R s Q q =>
  h.bind s fun v H1 R1 g1 s1 a => h'.bind s1 fun v' H2 R2 g2 s2 b => by
    have a' := Rep.mono g2.rr _ _ a
    cases a' with
    | tup a1 a2 =>
      cases b with
      | tup b1 b2 =>
        have e := a2.toInts
        subst e
        refine ⟨_, _, ns, _, rfl, .inl (.inl (s2.wf.sub _ _ a1)), .inl (.inl (s2.wf.sub _ _ b1)), by rw [b2.length]; exact hl, fun p hp => ?_⟩
        have e : mergeK [] ((ns.map kI).zip _) = (ns.map kI).zip _ := mergeK_fresh (acc := []) (by
          rw [List.nil_append, List.map_fst_zip (by rw [List.length_map, b2.length, hl]; exact Nat.le_refl _)]
          exact List.Pairwise.map _ (fun a b hab z => hab (Sum.inl.inj z)) hn)
        rw [e]
        have g := g1.trans' g2
        exact q p _ R2 (g.trans' (.lay g2.wf hp)) (g.back hp) (g2.wf.none hp) ⟨_, upd_same, repK_zip ns b2⟩
/-- a new dict, frozen at once -/
theorem EvN.dk {kvs : List (Int × PyData)} (h : EvN c Ms As te (.dK kvs)) : Ev c Ms As te (dicK kvs) := fun σ H R s Q q =>
  h σ H R s Q fun p H' R' g h0 hr hm => by
    obtain ⟨es, hp, r⟩ := hm
    exact q _ H' (upd R' p (.dK es)) (g.freeze s.wf h0 hp hr) ⟨p, es, rfl, upd_same, r.mono (same_new hr)⟩
end
end Rb
end
section
set_option Elab.async false
set_option linter.all false
set_option maxRecDepth 100000
set_option maxHeartbeats 4000000
namespace Rb
open PySem L2
section
variable {c : Kx} {H0 R0 : Hp} {Ms : MS} {As : AS} {ta tb te : TE} {A B : Asr} {K : PySem.W.Frag} {d e : PyData} {t u : TT} {tu tw : TS} {D : Ends} {C : L2.St → Hp → Prop}

/-! ### own things by their raw values -/
theorem Ev.valI {i : Int} (h : Ev c Ms As te (dp (.int i))) : Ev c Ms As te (valA (.int i)) := h.le fun R v a => by
  cases a
  exact rfl
theorem ev_ixR {a : Addr} {vs : List V} {v : V} (n : Nat) (ha : Ev c Ms As ta (valA (.ref a))) (hb : Ev c Ms As tb (dp (.int (n : Int)))) (hm : (a, Mc.raw vs) ∈ Ms) (hi : vs[n]? = some v) : Ev c Ms As (tOp (rIxL K) ta tb) (valA v) :=
  ev_op ha hb fun H R x y w m p q Q k => by
    cases p
    cases q
    have hl := (List.getElem?_eq_some_iff.mp hi).1
    exact ⟨a, vs, (n : Int), v, rfl, rfl, .inl (.inl (m.ok _ hm)), by
      unfold L2.atI
      rw [show ixN vs.length (n : Int) = some n by unfold ixN; rw [if_pos (by omega), if_pos (by omega)]; simp]
      exact hi, k v H R (.refl w) rfl⟩
/-- an int that is held raw -/
theorem Ev.intV {i : Int} (h : Ev c Ms As te (valA (.int i))) : Ev c Ms As te (dp (.int i)) := h.le fun R v a => by
  cases a
  exact .int i
theorem lsA.dp' {Ms' : MS} {ds : List PyData} {H R : Hp} {v : V} (h : (lsA Ms' ds).h R v) (hs : Ms' ⊆ Ms) (w : Wf c H R) (m : Muts c Ms H R) : Dp K H v (.list ds) := by
  obtain ⟨a, vs, rfl, h1, h2⟩ := lsA.at_ h hs w m
  exact .lst (.inl (.inl h1)) (Reps.mono w.sub ds vs h2).dp
theorem ev_neDo {Ms' : MS} {ds es : List PyData} (ha : Ev c Ms As ta (lsA Ms' ds)) (hb : Ev c Ms As tb (dp (.list es))) (hd : SeqAt.shaped (.list ds) = true) (he : SeqAt.shaped (.list es) = true) (hs : Ms' ⊆ Ms := by first | exact List.nil_subset _ | exact List.Subset.refl _ | simp) :
    Ev c Ms As (tOp (rNeD K) ta tb) (dp (.bool (!PyData.eqv (.list ds) (.list es)))) :=
  ev_op0 ha hb fun H R x y w m a b Q q => ⟨_, _, lsA.dp' a hs w m, (Rep.mono w.sub _ _ b).dp, hd, he, q _ (.bl _)⟩
theorem ev_eqDo {Ms' : MS} {ds es : List PyData} (ha : Ev c Ms As ta (lsA Ms' ds)) (hb : Ev c Ms As tb (dp (.list es))) (hd : SeqAt.shaped (.list ds) = true) (he : SeqAt.shaped (.list es) = true) (hs : Ms' ⊆ Ms := by first | exact List.nil_subset _ | exact List.Subset.refl _ | simp) :
    Ev c Ms As (tOp (rEqD K) ta tb) (dp (.bool (PyData.eqv (.list ds) (.list es)))) :=
  ev_op0 ha hb fun H R x y w m a b Q q => ⟨_, _, lsA.dp' a hs w m, (Rep.mono w.sub _ _ b).dp, hd, he, q _ (.bl _)⟩
theorem ixN_nat {n i : Nat} (h : i < n) : ixN n (i : Int) = some i := by
  unfold ixN
  rw [if_pos (by omega), if_pos (by omega)]
  simp
/-- xs[i] = v, raw -/
theorem go_setR {p : Addr} {vs : List V} {v : V} {i : Nat} (k : Nat) (he : Ev c Ms As te (valA v)) (hx : Ev c Ms As ta (valA (.ref p))) (hi : Ev c Ms As tb (dp (.int (i : Int)))) (hk : Ms[k]? = some (p, .raw vs)) (h0 : H0 p = none) (hl : i < vs.length) (h : Go c H0 R0 (Ms.set k (p, .raw (vs.set i v))) As D.nx) :
    Go c H0 R0 Ms As (tAsg te (gSub ta tb rSetL) D) := fun σ H R g s =>
  he.bind s fun v' H1 R1 g1 s1 a => hx.bind s1 fun x H2 R2 g2 s2 b => hi.bind s2 fun y H3 R3 g3 s3 cc => by
    cases a; cases b; cases cc
    have hu := s3.mu.ok _ (List.mem_of_getElem? hk)
    exact ⟨p, vs, (i : Int), i, rfl, rfl, hu, ixN_nat hl, go_put (((g.trans' g1).trans' g2).trans' g3) s3 hk h0 (m' := .raw (vs.set i v)) (fun H' hH => hH) h⟩
/-! ### dicts with raw values -/
theorem ev_dgetKr {a : Addr} {es : List (Key × V)} {i : Int} {v : V} (ha : Ev c Ms As ta (valA (.ref a))) (hb : Ev c Ms As tb (dp (.int i))) (hm : (a, Mc.dKr es) ∈ Ms) (hv : valV es (.inl i) = some v) : Ev c Ms As (tDGet ta tb) (valA v) := fun σ H R s Q q =>
  ha.bind s fun x H1 R1 g1 s1 p => hb.bind s1 fun y H2 R2 g2 s2 b => by
    cases p
    cases b
    exact ⟨a, v, rfl, by rw [← hv]; exact DGet.k (k := Sum.inl i) (s2.mu.ok _ hm), q v H2 R2 (g1.trans s.wf g2) rfl⟩
/-- d[k] = [], the list stays one's own -/
theorem go_dputN {p : Addr} {es : List (Key × V)} {i : Int} {m : Mc} (k : Nat) (he : EvN c Ms As te m) (hx : ∀ q, Ev c ((q, m) :: Ms) As ta (valA (.ref p))) (hi : ∀ q, Ev c ((q, m) :: Ms) As tb (dp (.int i))) (hk : Ms[k]? = some (p, .dKr es)) (h0 : H0 p = none) (hl : es.length < 100000)
    (h : ∀ q, H0 q = none → q ∉ Ms.map Prod.fst → Go c H0 R0 ((q, m) :: Ms.set k (p, .dKr (putK es (.inl i) (.ref q)))) As D.nx) : Go c H0 R0 Ms As (sDPut ta tb te D) := fun σ H R g s =>
  he σ H R s _ fun q H1 R1 g1 hq0 hn hm => by
    have s1 := s.own g1 hq0 hn hm
    refine (hx q).bind s1 fun x H2 R2 g2 s2 b => (hi q).bind s2 fun y H3 R3 g3 s3 cc => ?_
    cases b; cases cc
    have hk' : ((q, m) :: Ms)[k + 1]? = some (p, .dKr es) := hk
    have hu := s3.mu.ok _ (List.mem_of_getElem? hk')
    refine ⟨p, _, rfl, DPut.k (k := Sum.inl i) hu (Nat.lt_trans hl (by decide)), go_put (((g.trans' g1).trans' g2).trans' g3) s3 hk' h0 (m' := .dKr (putK es (.inl i) (.ref q))) (fun H' hH => hH) (h q (g.back hq0) ?_)⟩
    exact (List.nodup_cons.mp (show (q :: Ms.map Prod.fst).Nodup from s1.mu.nd)).1
/-! ### many are frozen -/
theorem Sit.frz1 {σ : L2.St} {H R : Hp} {p : Addr} {m : Mc} (s : Sit c ((p, m) :: Ms) As σ H R) : ∃ o, H p = some o ∧ R p = none ∧ Same R (upd R p o) ∧ Sit c Ms As σ H (upd R p o) ∧ (frz m).h (upd R p o) (.ref p) := by
  have hm := s.mu.ok (p, m) List.mem_cons_self
  have hn : R p = none := s.mu.hid (p, m) List.mem_cons_self
  have hA : p ∉ c.A0 := s.mu.off (p, m) List.mem_cons_self
  obtain ⟨o, ho⟩ := hm.alive
  have rr : Same R (upd R p o) := same_new hn
  have nd : p ∉ Ms.map Prod.fst := (List.nodup_cons.mp (show (p :: Ms.map Prod.fst).Nodup from s.mu.nd)).1
  have wf' : Wf c H (upd R p o) := ⟨fun x u q => by
    by_cases e : x = p
    · subst e; rw [upd_same] at q; rw [ho]; exact q
    · rw [upd_ne e] at q; exact s.wf.sub x u q, fun x hx => by rw [upd_ne (fun z : x = p => hA (by rw [← z]; exact hx))]; exact s.wf.av x hx, s.wf.j⟩
  refine ⟨o, ho, hn, rr, ⟨wf', ⟨(List.nodup_cons.mp (show (p :: Ms.map Prod.fst).Nodup from s.mu.nd)).2, fun e he => s.mu.off e (List.mem_cons_of_mem _ he), fun e he => ?_, fun e he => (s.mu.ok e (List.mem_cons_of_mem _ he)).mono rr fun _ z => z⟩, s.sl.mono rr⟩, frz.mk hm hn o ho⟩
  rw [upd_ne (fun z : e.1 = p => nd (by rw [← z]; exact List.mem_map_of_mem he))]
  exact s.mu.hid e (List.mem_cons_of_mem _ he)
theorem Sit.frzAll {σ : L2.St} {H : Hp} : ∀ (ls : MS) {R : Hp}, Sit c (ls ++ Ms) As σ H R → ∃ R', Same R R' ∧ (∀ x o, R' x = some o → R x = some o ∨ x ∈ ls.map Prod.fst) ∧ Sit c Ms As σ H R' ∧ ∀ e ∈ ls, (frz e.2).h R' (.ref e.1)
  | [], R, s => ⟨R, Same.refl R, fun _ _ h => .inl h, s, fun e he => absurd he (by simp)⟩
  | (p, m) :: ls, R, s => by
    obtain ⟨o, ho, hn, rr, s1, hf⟩ := Sit.frz1 (Ms := ls ++ Ms) s
    obtain ⟨R', r2, f2, s2, h2⟩ := Sit.frzAll ls s1
    refine ⟨R', rr.trans r2, fun x u h => ?_, s2, fun e he => ?_⟩
    · rcases f2 x u h with h | h
      · by_cases e : x = p
        · exact .inr (by simp [e])
        · rw [upd_ne e] at h; exact .inl h
      · exact .inr (by simp at h ⊢; exact .inr h)
    · rcases List.mem_cons.mp he with rfl | he
      · exact (frz m).mono r2 hf
      · exact h2 e he
/-- a dict of own lists becomes a dict of lists -/
theorem go_frzDict {ls : MS} {p : Addr} {es : List (Key × V)} {kvs : List (Int × PyData)} (h0 : ∀ e ∈ ls, H0 e.1 = none) (hr : ∀ R, (∀ e ∈ ls, (frz e.2).h R (.ref e.1)) → RepK R es kvs) (h : Go c H0 R0 ((p, .dK kvs) :: Ms) As C) : Go c H0 R0 (ls ++ (p, .dKr es) :: Ms) As C := fun σ H R g s => by
  obtain ⟨R', r2, f2, s2, h2⟩ := Sit.frzAll ls s
  refine h σ H R' ⟨g.gr, g.rr.trans r2, fun x o hx => ?_, s2.wf⟩ ⟨s2.wf, ⟨s2.mu.nd, fun e he => ?_, fun e he => ?_, fun e he => ?_⟩, s2.sl⟩
  · rcases f2 x o hx with h | h
    · exact g.fr x o h
    · obtain ⟨e, he, rfl⟩ := List.mem_map.mp h
      exact .inr (.inl (h0 e he))
  · rcases List.mem_cons.mp he with rfl | he
    · exact s2.mu.off (p, .dKr es) List.mem_cons_self
    · exact s2.mu.off e (List.mem_cons_of_mem _ he)
  · rcases List.mem_cons.mp he with rfl | he
    · exact s2.mu.hid (p, .dKr es) List.mem_cons_self
    · exact s2.mu.hid e (List.mem_cons_of_mem _ he)
  · rcases List.mem_cons.mp he with rfl | he
    · exact ⟨es, s2.mu.ok (p, .dKr es) List.mem_cons_self, hr R' h2⟩
    · exact s2.mu.ok e (List.mem_cons_of_mem _ he)

/-! ### a, b = x, y with the tuple laid -/
theorem go_tup2 {i j : Nat} (h : EvA c Ms As (tCons ta (tCons tb tNil)) [A, B]) (k : Go c H0 R0 Ms ((As.set i (some A)).set j (some B)) D.nx) : Go c H0 R0 Ms As (tAsg (tTup (tCons ta (tCons tb tNil))) (gTup K 2 (gCons (gName i) (gCons (gName j) gNil))) D) := fun σ H R g s => by
    unfold tAsg tTup
    refine h σ H R s _ fun vs H1 R1 g1 a => ?_
    cases a with
    | cons a1 a2 =>
      cases a2 with
      | cons a2 a3 =>
        cases a3
        rename_i v1 v2
        refine ⟨by show 2 ≤ sizeLine; decide, fun p hp => ?_⟩
        have s1 := s.grow g1
        have g2 : Grow c H1 R1 (upd H1 p (.tup [v1, v2])) R1 := .lay s1.wf hp
        have s2 := s1.grow g2
        exact ⟨p, _, rfl, .inl (.inl upd_same), rfl, _, _, rfl, _, _, rfl, rfl, k _ _ _ ((g.trans' g1).trans' g2) ⟨s2.wf, s2.mu, (s2.sl.set i a1).set j a2⟩⟩
theorem go_tupNA {i j : Nat} {m : Mc} (h : EvN c Ms As ta m) (h' : ∀ p, Ev c ((p, m) :: Ms) As tb A) (k : ∀ p, H0 p = none → Go c H0 R0 ((p, m) :: Ms) ((As.set i (some (valA (.ref p)))).set j (some A)) D.nx) : Go c H0 R0 Ms As (tAsg (tTup (tCons ta (tCons tb tNil))) (gTup K 2 (gCons (gName i) (gCons (gName j) gNil))) D) := fun σ H R g s =>
  h σ H R s _ fun q H' R' g' h0 hn hm => by
    have s' := s.own g' h0 hn hm
    refine (h' q).bind s' fun v H2 R2 g2 s2 a => ⟨by show 2 ≤ sizeLine; decide, fun p hp => ?_⟩
    have g3 : Grow c H2 R2 (upd H2 p (.tup [.ref q, v])) R2 := .lay s2.wf hp
    have s3 := s2.grow g3
    exact ⟨p, _, rfl, .inl (.inl upd_same), rfl, _, _, rfl, _, _, rfl, rfl, k q (g.back h0) _ _ _ (((g.trans' g').trans' g2).trans' g3) ⟨s3.wf, s3.mu, (s3.sl.set i rfl).set j a⟩⟩
theorem go_tupAN {i j : Nat} {m : Mc} (h : Ev c Ms As ta A) (h' : EvN c Ms As tb m) (k : ∀ p, H0 p = none → Go c H0 R0 ((p, m) :: Ms) ((As.set i (some A)).set j (some (valA (.ref p)))) D.nx) : Go c H0 R0 Ms As (tAsg (tTup (tCons ta (tCons tb tNil))) (gTup K 2 (gCons (gName i) (gCons (gName j) gNil))) D) := fun σ H R g s =>
  h.bind s fun v H1 R1 g1 s1 a => h' σ H1 R1 s1 _ fun q H' R' g' h0 hn hm => by
    have s' := s1.own g' h0 hn hm
    refine ⟨by show 2 ≤ sizeLine; decide, fun p hp => ?_⟩
    have g3 : Grow c H' R' (upd H' p (.tup [v, .ref q])) R' := .lay s'.wf hp
    have s3 := s'.grow g3
    exact ⟨p, _, rfl, .inl (.inl upd_same), rfl, _, _, rfl, _, _, rfl, rfl, k q (g.back (g1.back h0)) _ _ _ (((g.trans' g1).trans' g').trans' g3) ⟨s3.wf, s3.mu, (s3.sl.set i (A.mono g'.rr a)).set j rfl⟩⟩
theorem go_tupNN {i j : Nat} {m n : Mc} (h : EvN c Ms As ta m) (h' : ∀ p, EvN c ((p, m) :: Ms) As tb n) (k : ∀ p q, H0 p = none → H0 q = none → Go c H0 R0 ((q, n) :: (p, m) :: Ms) ((As.set i (some (valA (.ref p)))).set j (some (valA (.ref q)))) D.nx) : Go c H0 R0 Ms As (tAsg (tTup (tCons ta (tCons tb tNil))) (gTup K 2 (gCons (gName i) (gCons (gName j) gNil))) D) := fun σ H R g s =>
  h σ H R s _ fun p H1 R1 g1 h0 hn hm => by
    have s1 := s.own g1 h0 hn hm
    exact h' p σ H1 R1 s1 _ fun q H2 R2 g2 h02 hn2 hm2 => by
      have s2 := s1.own g2 h02 hn2 hm2
      refine ⟨by show 2 ≤ sizeLine; decide, fun r hr => ?_⟩
      have g3 : Grow c H2 R2 (upd H2 r (.tup [.ref p, .ref q])) R2 := .lay s2.wf hr
      have s3 := s2.grow g3
      exact ⟨r, _, rfl, .inl (.inl upd_same), rfl, _, _, rfl, _, _, rfl, rfl, k p q (g.back h0) (g.back (g1.back h02)) _ _ _ (((g.trans' g1).trans' g2).trans' g3) ⟨s3.wf, s3.mu, (s3.sl.set i rfl).set j rfl⟩⟩
theorem go_tup4 {tc td : TE} {A3 A4 : Asr} {i j i3 i4 : Nat} (h : EvA c Ms As (tCons ta (tCons tb (tCons tc (tCons td tNil)))) [A, B, A3, A4]) (k : Go c H0 R0 Ms ((((As.set i (some A)).set j (some B)).set i3 (some A3)).set i4 (some A4)) D.nx) :
    Go c H0 R0 Ms As (tAsg (tTup (tCons ta (tCons tb (tCons tc (tCons td tNil))))) (gTup K 4 (gCons (gName i) (gCons (gName j) (gCons (gName i3) (gCons (gName i4) gNil))))) D) := fun σ H R g s => by
    unfold tAsg tTup
    refine h σ H R s _ fun vs H1 R1 g1 a => ?_
    cases a with
    | cons a1 a2 =>
      cases a2 with
      | cons a2 a3 =>
        cases a3 with
        | cons a3 a4 =>
          cases a4 with
          | cons a4 a5 =>
            cases a5
            rename_i v1 v2 v3 v4
            refine ⟨by show 4 ≤ sizeLine; decide, fun p hp => ?_⟩
            have s1 := s.grow g1
            have g2 : Grow c H1 R1 (upd H1 p (.tup [v1, v2, v3, v4])) R1 := .lay s1.wf hp
            have s2 := s1.grow g2
            exact ⟨p, _, rfl, .inl (.inl upd_same), rfl, _, _, rfl, _, _, rfl, _, _, rfl, _, _, rfl, rfl, k _ _ _ ((g.trans' g1).trans' g2) ⟨s2.wf, s2.mu, (((s2.sl.set i a1).set j a2).set i3 a3).set i4 a4⟩⟩
/-- a, b = a list of two -/
theorem go_unl2 {Ms' : MS} {i j : Nat} (h : Ev c Ms As te (lsA Ms' [d, e])) (k : Go c H0 R0 Ms ((As.set i (some (dp d))).set j (some (dp e))) D.nx) (hs : Ms' ⊆ Ms := by first | exact List.nil_subset _ | exact List.Subset.refl _ | simp) : Go c H0 R0 Ms As (tAsg te (gUnl K 2 (gCons (gName i) (gCons (gName j) gNil))) D) := fun σ H R g s =>
  h.bind s fun v H1 R1 g1 s1 a => by
    obtain ⟨p, vs, rfl, h1, r⟩ := lsA.at_ a hs s1.wf s1.mu
    cases r with
    | cons r1 r2 =>
      cases r2 with
      | cons r2 r3 =>
        cases r3
        exact ⟨p, _, rfl, .inl (.inl h1), rfl, _, _, rfl, _, _, rfl, rfl, k _ _ _ (g.trans' g1) ⟨s1.wf, s1.mu, (s1.sl.set i r1).set j r2⟩⟩

/-! ### isinstance of a tuple, an int -/
theorem ev_isiT {n : String} {ds : List PyData} {b : Bool} (ha : Ev c Ms As ta (dp (.tuple ds))) (hb : Ev c Ms As tb (valA (.ty n))) (hk : PySem.W.kitOne K (.type "tuple") (.type n) = some b) : Ev c Ms As (tCB (rIsi K) (tCons ta (tCons tb tNil))) (dp (.bool b)) :=
  ev_cb2 ha hb fun H R x y w m a z Q q => by
    cases z
    cases a with
    | tup h1 r => exact ⟨_, _, _, _, b, rfl, .ty n, .base (.tup (w.sub _ _ h1)), hk, q _ H R (.refl w) (.bl b)⟩
theorem ev_isiI {n : String} {i : Int} {b : Bool} (ha : Ev c Ms As ta (dp (.int i))) (hb : Ev c Ms As tb (valA (.ty n))) (hk : PySem.W.kitOne K (.type "int") (.type n) = some b) : Ev c Ms As (tCB (rIsi K) (tCons ta (tCons tb tNil))) (dp (.bool b)) :=
  ev_cb2 ha hb fun H R x y w m a z Q q => by
    cases z
    cases a
    exact ⟨_, _, _, _, b, rfl, .ty n, .base (.int i), hk, q _ H R (.refl w) (.bl b)⟩

/-! ### what is drawn: ints of which something is known -/
def inA (P : Int → Prop) : Asr := exA P fun i => dp (.int i)
theorem Ev.inA {i : Int} {P : Int → Prop} (h : Ev c Ms As te (dp (.int i))) (hP : P i) : Ev c Ms As te (inA P) := h.le fun R v a => ⟨i, hP, a⟩
theorem Ev.ini {P P' : Int → Prop} (h : Ev c Ms As te (Rb.inA P)) (k : ∀ i, P i → P' i) : Ev c Ms As te (Rb.inA P') := h.le fun R v ⟨i, hi, a⟩ => ⟨i, k i hi, a⟩
theorem ev_opX {g : Int → Int → V} {f : Int → Int → PyData} {P1 P2 : Int → Prop} {ι : Type} {P : ι → Prop} {F : ι → PyData} (ha : Ev c Ms As ta (inA P1)) (hb : Ev c Ms As tb (inA P2)) (hg : ∀ R i j, Rep R (g i j) (f i j)) (hP : ∀ i j, P1 i → P2 j → ∃ k, P k ∧ f i j = F k) :
    Ev c Ms As (tOp (rI0 g) ta tb) (exA P fun k => dp (F k)) :=
  ev_op ha hb fun H R x y w m ⟨i, hi, a⟩ ⟨j, hj, b⟩ Q q => by
    cases a; cases b
    obtain ⟨k, hk, e⟩ := hP i j hi hj
    exact ⟨i, j, rfl, rfl, q _ H R (.refl w) ⟨k, hk, by show Rep R _ (F k); rw [← e]; exact hg R i j⟩⟩
theorem ev_addX {P1 P2 P : Int → Prop} (ha : Ev c Ms As ta (inA P1)) (hb : Ev c Ms As tb (inA P2)) (hP : ∀ i j, P1 i → P2 j → P (i + j)) : Ev c Ms As (tOp (rI0 fun i j => .int (i + j)) ta tb) (inA P) := ev_opX ha hb (fun _ _ _ => .int _) fun i j h1 h2 => ⟨i + j, hP i j h1 h2, rfl⟩
theorem ev_subX {P1 P2 P : Int → Prop} (ha : Ev c Ms As ta (inA P1)) (hb : Ev c Ms As tb (inA P2)) (hP : ∀ i j, P1 i → P2 j → P (i - j)) : Ev c Ms As (tOp (rI0 fun i j => .int (i - j)) ta tb) (inA P) := ev_opX ha hb (fun _ _ _ => .int _) fun i j h1 h2 => ⟨i - j, hP i j h1 h2, rfl⟩
theorem ev_mulX {Cc : Int → Int → Prop} {P1 P2 P : Int → Prop} (ha : Ev c Ms As ta (inA P1)) (hb : Ev c Ms As tb (inA P2)) (hc : ∀ i j, P1 i → P2 j → Cc i j) (hP : ∀ i j, P1 i → P2 j → P (i * j)) : Ev c Ms As (tOp (rI Cc fun i j => .int (i * j)) ta tb) (inA P) :=
  ev_op ha hb fun H R x y w m ⟨i, hi, a⟩ ⟨j, hj, b⟩ Q q => by
    cases a; cases b
    exact ⟨i, j, rfl, rfl, hc i j hi hj, q _ H R (.refl w) ⟨_, hP i j hi hj, .int _⟩⟩
theorem ev_modX {Cc : Int → Int → Prop} {P1 P2 P : Int → Prop} (ha : Ev c Ms As ta (inA P1)) (hb : Ev c Ms As tb (inA P2)) (hc : ∀ i j, P1 i → P2 j → Cc i j) (hP : ∀ i j, P1 i → P2 j → P (i % j)) : Ev c Ms As (tOp (rI Cc fun i j => .int (i % j)) ta tb) (inA P) :=
  ev_op ha hb fun H R x y w m ⟨i, hi, a⟩ ⟨j, hj, b⟩ Q q => by
    cases a; cases b
    exact ⟨i, j, rfl, rfl, hc i j hi hj, q _ H R (.refl w) ⟨_, hP i j hi hj, .int _⟩⟩
theorem ev_int1X {P : Int → Prop} (h : Ev c Ms As ta (inA P)) : Ev c Ms As (tCB (fun xs H Q => (∃ i, xs = [.int i] ∧ Q (.int i) H) ∨ ∃ k, xs = [.bl k] ∧ Q (.int (if k then 1 else 0)) H) (tCons ta tNil)) (inA P) :=
  ev_cb1 h fun H R x w m ⟨i, hi, a⟩ Q q => by cases a; exact .inl ⟨i, rfl, q _ H R (.refl w) ⟨i, hi, .int i⟩⟩
/-- a list's item at a drawn place -/
theorem ev_ixLX {Ms' : MS} {ds : List PyData} {P : Int → Prop} (ha : Ev c Ms As ta (lsA Ms' ds)) (hb : Ev c Ms As tb (inA P)) (hP : ∀ i, P i → 0 ≤ i ∧ i < ds.length) (hs : Ms' ⊆ Ms := by first | exact List.nil_subset _ | exact List.Subset.refl _ | simp) : Ev c Ms As (tOp (rIxL K) ta tb) (exA (fun d => d ∈ ds) fun d => dp d) :=
  ev_op ha hb fun H R x y w m a ⟨i, hi, b⟩ Q q => by
    cases b
    obtain ⟨p, vs, rfl, h1, r⟩ := lsA.at_ a hs w m
    obtain ⟨h2, h3⟩ := hP i hi
    have e : ds[i.toNat]? = some ds[i.toNat] := List.getElem?_eq_getElem (by omega)
    obtain ⟨v, hv, rv⟩ := r.get e
    refine ⟨_, _, i, v, rfl, rfl, .inl (.inl h1), ?_, q v H R (.refl w) ⟨_, List.getElem_mem _, rv⟩⟩
    have hl := r.length
    have ei : ixN vs.length i = some i.toNat := by
      have := ixN_nat (n := vs.length) (i := i.toNat) (by omega)
      rwa [Int.toNat_of_nonneg h2] at this
    unfold L2.atI
    rw [ei]
    exact hv

/-! ### tests of which something is known -/
def EvP (c : Kx) (Ms : MS) (As : AS) (tt : TT) (P : Bool → Prop) : Prop := ∀ σ H R, Sit c Ms As σ H R → ∀ Q : Bool → Hp → Prop, (∀ b H' R', P b → Grow c H R H' R' → Q b H') → tt σ H Q
theorem EvT.p {b : Bool} {P : Bool → Prop} (h : EvT c Ms As t b) (hP : P b) : EvP c Ms As t P := fun σ H R s Q q => h σ H R s Q fun H' R' g => q b H' R' hP g
theorem EvP.le {P P' : Bool → Prop} (h : EvP c Ms As t P) (k : ∀ b, P b → P' b) : EvP c Ms As t P' := fun σ H R s Q q => h σ H R s Q fun b H' R' hb g => q b H' R' (k b hb) g
theorem ep_B {P : Bool → Prop} (h : Ev c Ms As te (exA P fun b => dp (.bool b))) : EvP c Ms As (tB te) P := fun σ H R s Q q =>
  h.bind s fun v H1 R1 g _ ⟨b, hb, a⟩ => by cases a; exact ⟨b, rfl, q b H1 R1 hb g⟩
theorem ep_test {P : Bool → Prop} (h : Ev c Ms As te (exA P fun b => dp (.bool b))) : EvP c Ms As (tTest te) P := fun σ H R s Q q =>
  h.bind s fun v H1 R1 g _ ⟨b, hb, a⟩ => by cases a; exact ⟨b, rfl, q b H1 R1 hb g⟩
theorem ep_and {P1 P2 : Bool → Prop} (h1 : EvP c Ms As t P1) (h2 : P1 true → EvP c Ms As u P2) : EvP c Ms As (tAnd t u) fun b => b = true → P1 true ∧ P2 true := fun σ H R s Q q =>
  h1 σ H R s _ fun b H1 R1 hb g => by
    cases b with
    | true => exact h2 hb σ H1 R1 (s.grow g) Q fun b' H2 R2 hb' g2 => q b' H2 R2 (fun z => ⟨hb, by rw [z] at hb'; exact hb'⟩) (g.trans s.wf g2)
    | false => exact q false H1 R1 (fun z => by cases z) g
theorem go_ifP {P : Bool → Prop} (h : EvP c Ms As t P) (h1 : P true → Go c H0 R0 Ms As (tu D)) (h2 : P false → Go c H0 R0 Ms As (tw D)) : Go c H0 R0 Ms As (tIfS t tu tw D) := fun σ H R g s =>
  h σ H R s _ fun b H' R' hb g' => by
    cases b with
    | true => exact h1 hb σ H' R' (g.trans' g') (s.grow g')
    | false => exact h2 hb σ H' R' (g.trans' g') (s.grow g')
theorem ev_ifP {P : Bool → Prop} (h : EvP c Ms As t P) (h1 : P true → Ev c Ms As ta A) (h2 : P false → Ev c Ms As tb A) : Ev c Ms As (tIf t ta tb) A := fun σ H R s Q q =>
  h σ H R s _ fun b H' R' hb g => by
    have s' := s.grow g
    cases b with
    | true => exact h1 hb σ H' R' s' Q fun v H2 R2 g2 a => q v H2 R2 (g.trans s.wf g2) a
    | false => exact h2 hb σ H' R' s' Q fun v H2 R2 g2 a => q v H2 R2 (g.trans s.wf g2) a
/-- comparisons of drawn ints -/
theorem ev_cmpX {g : Int → Int → Bool} {P1 P2 : Int → Prop} (ha : Ev c Ms As ta (inA P1)) (hb : Ev c Ms As tb (inA P2)) : Ev c Ms As (tOp (rI0 fun i j => .bl (g i j)) ta tb) (exA (fun b => ∃ i j, P1 i ∧ P2 j ∧ b = g i j) fun b => dp (.bool b)) :=
  ev_op ha hb fun H R x y w m ⟨i, hi, a⟩ ⟨j, hj, b⟩ Q q => by
    cases a; cases b
    exact ⟨i, j, rfl, rfl, q _ H R (.refl w) ⟨_, ⟨i, j, hi, hj, rfl⟩, .bl _⟩⟩

/-! ### expressions that change what is one's own -/
def EvM (c : Kx) (H0 : Hp) (Ms : MS) (As : AS) (te : TE) {ι : Type} (P : ι → Prop) (N : ι → MS) (F : ι → Asr) : Prop := ∀ σ H R R0, Grow c H0 R0 H R → Sit c Ms As σ H R → ∀ Q : VK, (∀ i v H' R', P i → Grow c H0 R0 H' R' → Same R R' → Sit c (N i) As σ H' R' → (F i).h R' v → Q v H') → te σ H Q
theorem Ev.m {ι : Type} {P : ι → Prop} {F : ι → Asr} (h : Ev c Ms As te (exA P F)) : EvM c H0 Ms As te P (fun _ => Ms) F := fun σ H R R0 g s Q q =>
  h.bind s fun v H1 R1 g1 s1 ⟨i, hi, a⟩ => q i v H1 R1 hi (g.trans' g1) g1.rr s1 a
theorem go_asgM {ι : Type} {P : ι → Prop} {N : ι → MS} {F : ι → Asr} {i : Nat} (h : EvM c H0 Ms As te P N F) (k : ∀ x, P x → Go c H0 R0 (N x) (As.set i (some (F x))) D.nx) : Go c H0 R0 Ms As (tAsg te (gName i) D) := fun σ H R g s =>
  h σ H R R0 g s _ fun x v H' R' hx g' rr s' a => k x hx _ H' R' g' ⟨s'.wf, s'.mu, s'.sl.set i a⟩
theorem go_dropEv {ι : Type} {P : ι → Prop} {N : ι → MS} {F : ι → Asr} (h : EvM c H0 Ms As te P N F) (k : ∀ x, P x → Go c H0 R0 (N x) As D.nx) : Go c H0 R0 Ms As (tDrop te D) := fun σ H R g s =>
  h σ H R R0 g s _ fun x v H' R' hx g' rr s' a => k x hx _ H' R' g' s'
theorem go_appM {ι : Type} {P : ι → Prop} {N : ι → MS} {f : ι → PyData} {p : Addr} {ds : ι → List PyData} {ds0 : List PyData} (k : Nat) (hx : Ev c Ms As ta (valA (.ref p))) (he : EvM c H0 Ms As te P N fun i => dp (f i)) (hk0 : ∃ k : Nat, Ms[k]? = some (p, Mc.lst ds0)) (hk : ∀ i, P i → (N i)[k]? = some (p, .lst (ds i))) (h0 : H0 p = none) (hl : ∀ i, P i → (ds i).length < 100000)
    (h : ∀ i, P i → Go c H0 R0 ((N i).set k (p, .lst (ds i ++ [f i]))) As D.nx) : Go c H0 R0 Ms As (tDrop (tBM K "list" rAppend ta (tCons te tNil)) D) := fun σ H R g s =>
  hx.bind s fun x H1 R1 g1 s1 a => by
    cases a
    obtain ⟨k0, hk0⟩ := hk0
    obtain ⟨vs, hv, rv⟩ := s1.mu.ok _ (List.mem_of_getElem? hk0)
    refine ⟨.inl ⟨rfl, vs, .inl (.inl hv)⟩, he σ H1 R1 R0 (g.trans' g1) s1 _ fun i y H2 R2 hi g2 rr s2 b => ?_⟩
    obtain ⟨us, hu, ru⟩ := s2.mu.ok _ (List.mem_of_getElem? (hk i hi))
    exact ⟨p, us, y, rfl, rfl, hu, by rw [ru.length]; exact Nat.lt_trans (hl i hi) (by decide), go_put g2 s2 (hk i hi) h0 (m' := .lst (ds i ++ [f i])) (fun H' hH => ⟨_, hH, ru.append (.one b)⟩) (h i hi)⟩
theorem go_parM {ι κ : Type} {P : ι → Prop} {N : ι → MS} {F : ι → Asr} {P' : ι → κ → Prop} {N' : ι → κ → MS} {F' : ι → κ → Asr} {i j : Nat} (h : EvM c H0 Ms As ta P N F) (h' : ∀ x, P x → EvM c H0 (N x) As tb (P' x) (N' x) (F' x))
    (k : ∀ x y, P x → P' x y → Go c H0 R0 (N' x y) ((As.set i (some (F x))).set j (some (F' x y))) D.nx) : Go c H0 R0 Ms As (tPar i j (tCons ta (tCons tb tNil)) D) := fun σ H R g s =>
  h σ H R R0 g s _ fun x v H1 R1 hx g1 r1 s1 a => h' x hx σ H1 R1 R0 g1 s1 _ fun y w H2 R2 hy g2 r2 s2 b =>
    ⟨_, _, rfl, k x y hx hy _ H2 R2 g2 ⟨s2.wf, s2.mu, (s2.sl.set i ((F x).mono r2 a)).set j b⟩⟩
theorem Sit.putG {σ : L2.St} {H R : Hp} {p : Addr} {m m' : Mc} {k : Nat} {o : HO} (g : Grow c H0 R0 H R) (s : Sit c Ms As σ H R) (hk : Ms[k]? = some (p, m)) (h0 : H0 p = none) (hm : ∀ H', H' p = some o → Holds R H' p m') : Grow c H0 R0 (upd H p o) R ∧ Sit c (Ms.set k (p, m')) As σ (upd H p o) R := by
  have s' := s.put hk hm
  exact ⟨g.put h0 s'.wf, s'⟩
/-- xs.pop(i), i drawn -/
theorem em_popAt {q : Addr} {ds : List PyData} {ti : TE} {P : Int → Prop} (k : Nat) (hx : Ev c Ms As ta (valA (.ref q))) (hi : Ev c Ms As ti (inA P)) (hP : ∀ i, P i → 0 ≤ i ∧ i < ds.length) (hk : Ms[k]? = some (q, .lst ds)) (h0 : H0 q = none) (hl : ds.length ≤ 100000) :
    EvM c H0 Ms As (tBM K "list" rPopAt ta (tCons ti tNil)) (fun j : Nat => j < ds.length ∧ P (j : Int)) (fun j => Ms.set k (q, .lst (ds.eraseIdx j))) fun j => dp (ds.getD j .none) := fun σ H R R0 g s Q qq =>
  hx.bind s fun x H1 R1 g1 s1 a => by
    cases a
    obtain ⟨vs, hv, rv⟩ := s1.mu.ok _ (List.mem_of_getElem? hk)
    refine ⟨.inl ⟨rfl, vs, .inl (.inl hv)⟩, hi.bind s1 fun y H2 R2 g2 s2 ⟨i, hPi, b⟩ => ?_⟩
    cases b
    obtain ⟨us, hu, ru⟩ := s2.mu.ok _ (List.mem_of_getElem? hk)
    obtain ⟨z1, z2⟩ := hP i hPi
    have hln := ru.length
    have ei : (i.toNat : Int) = i := Int.toNat_of_nonneg z1
    have e : ds[i.toNat]? = some ds[i.toNat] := List.getElem?_eq_getElem (by omega)
    obtain ⟨v, hvv, rvv⟩ := ru.get e
    obtain ⟨g', s'⟩ := Sit.putG ((g.trans' g1).trans' g2) s2 hk h0 (o := .lst (us.eraseIdx i.toNat)) (m' := .lst (ds.eraseIdx i.toNat)) fun H' hH => ⟨_, hH, ru.eraseIdx _⟩
    refine ⟨q, us, i, i.toNat, v, rfl, rfl, hu, by omega, by omega, ?_, hvv, qq i.toNat v _ R2 ⟨by omega, by rw [ei]; exact hPi⟩ g' (g1.rr.trans g2.rr) s' ?_⟩
    · have := seqIx_nat (n := us.length) (i := i.toNat) (by omega)
      rwa [ei] at this
    · show Rep R2 v (ds.getD i.toNat .none)
      rw [List.getD_eq_getElem?_getD, e]
      exact rvv
/-- xs.pop() -/
theorem em_pop {q : Addr} {ds : List PyData} (k : Nat) (hx : Ev c Ms As ta (valA (.ref q))) (hk : Ms[k]? = some (q, .lst (ds ++ [d]))) (h0 : H0 q = none) :
    EvM c H0 Ms As (tBM0 K "list" rPop ta) (fun _ : Unit => True) (fun _ => Ms.set k (q, .lst ds)) fun _ => dp d := fun σ H R R0 g s Q qq =>
  hx.bind s fun x H1 R1 g1 s1 a => by
    cases a
    obtain ⟨vs, hv, rv⟩ := s1.mu.ok _ (List.mem_of_getElem? hk)
    have hl := rv.length
    rw [List.length_append, List.length_singleton] at hl
    have e : (ds ++ [d])[vs.length - 1]? = some d := by
      rw [hl, Nat.add_sub_cancel, List.getElem?_append_right (Nat.le_refl _), Nat.sub_self]
      rfl
    obtain ⟨v, hvv, rvv⟩ := rv.get e
    obtain ⟨g', s'⟩ := Sit.putG (g.trans' g1) s1 hk h0 (o := .lst vs.dropLast) (m' := .lst ds) fun H' hH => ⟨_, hH, by
      have := rv.dropLast
      rwa [List.dropLast_concat] at this⟩
    exact ⟨.inl ⟨rfl, vs, .inl (.inl hv)⟩, q, vs, v, rfl, rfl, hv, hvv, qq () v _ R1 trivial g' g1.rr s' rvv⟩
end
end Rb
end
section
set_option Elab.async false
set_option linter.all false
set_option maxRecDepth 100000
set_option maxHeartbeats 4000000
namespace Rb
open PySem L2
section
variable {c : Kx} {H0 R0 : Hp} {Ms : MS} {As : AS} {ta tb te : TE} {A B : Asr} {K : PySem.W.Frag} {d e : PyData} {t u : TT} {D : Ends} {C : L2.St → Hp → Prop}
theorem grow_none {H R H' R' : Hp} {D : Addr} {vs : List V} (g : Grow c H R H' R') (hn : R D = none) (hd : H D = some (.lst vs)) (hm : D ∉ c.Mu) : R' D = none := g.keepNone hn hd hm
/-- the list under way: one more item -/
theorem acc_step {H1 R1 H R : Hp} {X : Addr} {acc : List V} {ds : List PyData} {v : V} (g : Grow c H1 R1 H R) (hD : H1 X = none) (dA : X ∉ c.A0) (hn : R X = none) (hd : H X = some (.lst acc)) (ra : Reps R acc ds) (rv : Rep R v d) :
    Grow c H1 R1 (upd H X (.lst (acc ++ [v]))) R ∧ upd H X (.lst (acc ++ [v])) X = some (.lst (acc ++ [v])) ∧ Reps R (acc ++ [v]) (ds ++ [d]) := by
  refine ⟨⟨fun x o hx h => ?_, g.rr, g.fr, ⟨fun x o h => ?_, g.wf.av, c.loc (fun x hx => ?_) g.wf.j⟩⟩, upd_same, ra.append (.one rv)⟩
  · rw [upd_ne (ne_of_none h hD)]; exact g.gr x o hx h
  · rw [upd_ne (ne_of_none h hn)]; exact g.wf.sub x o h
  · rw [upd_ne (fun z : x = X => dA (by rw [← z]; exact hx))]
/-- two generators -/
theorem el_lc2 {α β : Type} {wi wi1 : TI} {g g1 : TG} {vs js vs1 js1 : List Nat} (xs : List α) (enc : α → PyData) (ys : α → List β) (enc1 : β → PyData) (f : α → β → PyData) {fA : α → AS → AS} {fB : β → AS → AS}
    (hi : EvI c Ms As wi (xs.map enc)) (hg : ∀ x ∈ xs, TgOk g (enc x) (fA x) js)
    (hi1 : ∀ x ∈ xs, EvI c Ms (fA x (wipeA As vs)) wi1 ((ys x).map enc1)) (hg1 : ∀ x ∈ xs, ∀ y ∈ ys x, TgOk g1 (enc1 y) (fB y) js1)
    (he : ∀ x ∈ xs, ∀ y ∈ ys x, Ev c Ms (fB y (wipeA (fA x (wipeA As vs)) vs1)) te (dp (f x y))) (hl : xs.length ≤ 300) (hl1 : ∀ x ∈ xs, (ys x).length ≤ 300) (hj : ∀ j ∈ js, j ∈ vs) (hj1 : ∀ j ∈ js1, j ∈ vs1) :
    EvL c Ms As (tLc2 wi g tYes wi1 g1 tYes te vs vs1) (xs.flatMap fun x => (ys x).map (f x)) := fun σ H R s Q q =>
  hi σ H R s _ fun J H1 R1 g0 wk X hX => by
    have hDH : H X = none := g0.back hX
    have dA : X ∉ c.A0 := fun z => by obtain ⟨u, hu⟩ := c.alive g0.wf.j X z; rw [hX] at hu; cases hu
    have dM : X ∉ c.Mu := fun z => dA (c.sub X z)
    have bound : ∀ k, k ≤ xs.length → ((xs.take k).flatMap fun x => (ys x).map (f x)).length ≤ 300 * k := by
      intro k
      induction k with
      | zero => intro _; simp
      | succ k ih =>
        intro hk
        have hx : xs[k]? = some xs[k] := List.getElem?_eq_getElem hk
        rw [take_snoc hx, List.flatMap_append, List.length_append]
        have := ih (by omega)
        have h1 := hl1 xs[k] (List.getElem_mem _)
        simp only [List.flatMap_cons, List.flatMap_nil, List.append_nil, List.length_map]
        omega
    refine ⟨fun i m H' => m = xs.length - i ∧ i ≤ xs.length ∧ ∃ R' acc, Grow c H1 R1 H' R' ∧ R' X = none ∧ H' X = some (.lst acc) ∧ Reps R' acc ((xs.take i).flatMap fun x => (ys x).map (f x)), ⟨xs.length, by simp, Nat.zero_le _, R1, [], .lay g0.wf hX, g0.wf.none hX, upd_same, .nil⟩, ?_⟩
    rintro i m H' ⟨rfl, hle, R', acc, g2, hn, hd, ra⟩
    by_cases hlt : i < xs.length
    · refine .inr ⟨wk.goes i H' R' (by simpa using hlt) g2.wf g2.rr, fun H'' => i + 1 ≤ xs.length ∧ ∃ R' acc, Grow c H1 R1 H'' R' ∧ R' X = none ∧ H'' X = some (.lst acc) ∧ Reps R' acc ((xs.take (i + 1)).flatMap fun x => (ys x).map (f x)), fun H'' z => ⟨xs.length - (i + 1), by omega, rfl, z⟩, fun x H2 y => ?_⟩
      have hx : xs[i]? = some xs[i] := List.getElem?_eq_getElem hlt
      have mx : xs[i] ∈ xs := List.getElem_mem hlt
      have e1 : (xs.take (i + 1)).flatMap (fun x => (ys x).map (f x)) = (xs.take i).flatMap (fun x => (ys x).map (f x)) ++ (ys xs[i]).map (f xs[i]) := by
        rw [take_snoc hx, List.flatMap_append]
        simp
      have bd := bound i (Nat.le_of_lt hlt)
      obtain ⟨R2, g3, rx⟩ := wk.yields i (enc xs[i]) H' R' x H2 (by rw [List.getElem?_map, hx]; rfl) g2.wf g2.rr y
      have gg := g2.trans g0.wf g3
      have hn2 : R2 X = none := grow_none g3 hn hd dM
      have hd2 : H2 X = some (.lst acc) := g3.gr X _ dM hd
      have sl : Slots (wipeA As vs) (L2.wipe σ vs) R2 := (s.sl.wipe vs).mono (g0.rr.trans gg.rr)
      refine hg _ mx x _ H2 R2 _ gg.wf.sub sl rx _ fun σ2 s2 hw => ⟨(hw vs hj).trans wipe_wipe, ?_⟩
      have st : Sit c Ms (fA xs[i] (wipeA As vs)) σ2 H2 R2 := ⟨gg.wf, s.mu.grow (g0.trans s.wf gg), s2⟩
      refine hi1 _ mx σ2 H2 R2 st _ fun J1 H3 R3 g4 wk1 => ?_
      have ga := gg.trans g0.wf g4
      have hd3 : H3 X = some (.lst acc) := g4.gr X _ dM hd2
      have hn3 : R3 X = none := grow_none g4 hn2 hd2 dM
      have ra3 : Reps R3 acc ((xs.take i).flatMap fun x => (ys x).map (f x)) := ra.mono (g3.rr.trans g4.rr)
      refine ⟨fun j m H' => m = (ys xs[i]).length - j ∧ j ≤ (ys xs[i]).length ∧ ∃ R' acc, Same R3 R' ∧ Grow c H1 R1 H' R' ∧ R' X = none ∧ H' X = some (.lst acc) ∧ Reps R' acc ((xs.take i).flatMap (fun x => (ys x).map (f x)) ++ ((ys xs[i]).take j).map (f xs[i])), ⟨(ys xs[i]).length, by simp, Nat.zero_le _, R3, acc, Same.refl R3, ga, hn3, hd3, by simpa using ra3⟩, ?_⟩
      rintro j m H4 ⟨rfl, hlej, R4, acc4, g5, gb, hn4, hd4, ra4⟩
      have ml : (ys xs[i]).length ≤ 300 := hl1 _ mx
      by_cases hltj : j < (ys xs[i]).length
      · have hy : (ys xs[i])[j]? = some (ys xs[i])[j] := List.getElem?_eq_getElem hltj
        have my : (ys xs[i])[j] ∈ ys xs[i] := List.getElem_mem hltj
        refine .inr ⟨wk1.goes j H4 R4 (by simpa using hltj) gb.wf g5, fun H'' => j + 1 ≤ (ys xs[i]).length ∧ ∃ R' acc, Same R3 R' ∧ Grow c H1 R1 H'' R' ∧ R' X = none ∧ H'' X = some (.lst acc) ∧ Reps R' acc ((xs.take i).flatMap (fun x => (ys x).map (f x)) ++ ((ys xs[i]).take (j + 1)).map (f xs[i])), fun H'' z => ⟨(ys xs[i]).length - (j + 1), by omega, rfl, z⟩, fun x' H5 y' => ?_⟩
        obtain ⟨R5, g6, rx5⟩ := wk1.yields j (enc1 (ys xs[i])[j]) H4 R4 x' H5 (by rw [List.getElem?_map, hy]; rfl) gb.wf g5 y'
        have gc := g5.trans g6.rr
        have gd := gb.trans g0.wf g6
        have hn5 : R5 X = none := grow_none g6 hn4 hd4 dM
        have hd5 : H5 X = some (.lst acc4) := g6.gr X _ dM hd4
        have sl5 : Slots (wipeA (fA xs[i] (wipeA As vs)) vs1) (L2.wipe σ2 vs1) R5 := (s2.wipe vs1).mono (g4.rr.trans gc)
        refine hg1 _ mx _ my x' _ H5 R5 _ gd.wf.sub sl5 rx5 _ fun σ3 s3 hw3 => ⟨(hw3 vs1 hj1).trans wipe_wipe, ?_⟩
        have st5 : Sit c Ms (fB (ys xs[i])[j] (wipeA (fA xs[i] (wipeA As vs)) vs1)) σ3 H5 R5 := ⟨gd.wf, s.mu.grow (g0.trans s.wf gd), s3⟩
        refine he _ mx _ my σ3 H5 R5 st5 _ fun v H6 R6 g7 rv => ?_
        have gf := gd.trans g0.wf g7
        have hd6 : H6 X = some (.lst acc4) := g7.gr X _ dM hd5
        have hn6 : R6 X = none := grow_none g7 hn5 hd5 dM
        have ra6 := ra4.mono (g6.rr.trans g7.rr)
        obtain ⟨z1, z2, z3⟩ := acc_step gf hX dA hn6 hd6 ra6 rv
        refine ⟨acc4, hd6, ?_, hltj, R6, acc4 ++ [v], gc.trans g7.rr, z1, hn6, z2, ?_⟩
        · have hla := ra4.length
          rw [List.length_append, List.length_map, List.length_take] at hla
          have : acc4.length < 300 * 300 + 300 + 1 := by
            have h1 : 300 * i ≤ 300 * 300 := Nat.mul_le_mul_left _ (by omega)
            omega
          exact Nat.lt_of_lt_of_le this (by decide)
        · rw [take_snoc hy, List.map_append, ← List.append_assoc]
          exact z3
      · have e : j = (ys xs[i]).length := by omega
        subst e
        refine .inl ⟨by have h := wk1.stops H4 R4 gb.wf g5; rw [List.length_map] at h; exact h, hlt, R4, acc4, gb, hn4, hd4, ?_⟩
        rw [List.take_length] at ra4
        rw [e1]
        exact ra4
    · have e : i = xs.length := by omega
      subst e
      refine .inl ⟨by have h := wk.stops H' R' g2.wf g2.rr; rw [List.length_map] at h; exact h, ?_⟩
      rw [List.take_length] at ra
      exact q X acc H' R' (g0.trans s.wf g2) hDH hn hd ra
end
end Rb
end
section
set_option Elab.async false
set_option linter.all false
set_option maxRecDepth 100000
set_option maxHeartbeats 4000000
namespace Rb
open PySem L2
section
variable {c : Kx} {H0 R0 : Hp} {Ms : MS} {As : AS} {ta tb te : TE} {A B : Asr} {K : PySem.W.Frag} {d e : PyData} {t u : TT} {D : Ends} {C : L2.St → Hp → Prop}
/-- tuples that stand are taken into the ghost heap -/
theorem Grow.tups {H R : Hp} (w : Wf c H R) (bs : List Addr) (hb : ∀ b ∈ bs, ∃ xs, H b = some (.tup xs)) : ∃ R', Grow c H R H R' ∧ ∀ b ∈ bs, R' b = H b := by
  refine ⟨fun x => match R x with | some o => some o | none => if x ∈ bs then H x else none, ⟨fun x o _ h => h, fun x o h => by rw [h], fun x o h => ?_, ⟨fun x o h => ?_, fun x hx => ?_, w.j⟩⟩, fun b hb' => ?_⟩
  · cases q : R x with
    | some u => rw [q] at h; exact .inl h
    | none =>
      rw [q] at h
      dsimp only at h
      split at h
      · rename_i hm
        obtain ⟨xs, hxs⟩ := hb x hm
        rw [hxs] at h
        exact .inr (.inr ⟨xs, (Option.some.inj h).symm⟩)
      · cases h
  · cases q : R x with
    | some u => rw [q] at h; rw [← h]; exact w.sub x u q
    | none =>
      rw [q] at h
      dsimp only at h
      split at h
      · exact h
      · cases h
  · rw [w.av x hx]
    dsimp only
    rw [if_neg]
    intro hm
    obtain ⟨xs, hxs⟩ := hb x hm
    obtain ⟨vs, hv⟩ := c.alive w.j x hx
    rw [hxs] at hv
    cases hv
  · show (match R b with | some o => some o | none => if b ∈ bs then H b else none) = H b
    cases q : R b with
    | some u => exact (w.sub b u q).symm
    | none => exact if_pos hb'
theorem keys_reps {H R' : Hp} : ∀ {es : List (List Key × V)} {kvs : List (List Int × PyData)} {bs : List Addr} {R : Hp}, RepT R es kvs → IsKeys H es bs → (∀ b ∈ bs, R' b = H b) → Reps R' (bs.map V.ref) (kvs.map fun kv => .tuple (intsD kv.1))
  | _, _, _, _, .nil, k, _ => by cases k; exact .nil
  | _, _, _, _, .cons h t, k, hb => by
    cases k with
    | cons k1 k2 =>
      refine .cons (.tup ((hb _ List.mem_cons_self).trans k1) ?_) (keys_reps t k2 fun b m => hb b (List.mem_cons_of_mem _ m))
      rw [h.1, kV_ints]
      exact .of_ints _
theorem isKeys_tup {H : Hp} : ∀ {es : List (List Key × V)} {bs : List Addr}, IsKeys H es bs → ∀ b ∈ bs, ∃ xs, H b = some (.tup xs)
  | _, _, .nil, b, hb => absurd hb (by simp)
  | _, _, .cons h t, b, hb => by
    rcases List.mem_cons.mp hb with rfl | hb
    · exact ⟨_, h⟩
    · exact isKeys_tup t b hb
/-- list(d), the keys tuples of ints -/
theorem el_listDT {Ms' : MS} {kvs : List (List Int × PyData)} (h : Ev c Ms As ta (dtA Ms' kvs)) (hs : Ms' ⊆ Ms := by first | exact List.nil_subset _ | exact List.Subset.refl _ | simp) :
    EvL c Ms As (tCB (fun xs H Q => ∃ d kvs, xs = [V.ref d] ∧ Rd H d (.dT kvs) ∧ ∀ p bs, H p = none → IsKeys H kvs bs → Q (.ref p) (upd H p (.lst (bs.map V.ref)))) (tCons ta tNil)) (kvs.map fun kv => .tuple (intsD kv.1)) :=
  el_cb1 h fun H R x w m a Q q => by
    obtain ⟨p, es, rfl, e1, r⟩ := dtA.at_ a hs w m
    refine ⟨p, es, rfl, .inl e1, fun p' bs hn hk => ?_⟩
    obtain ⟨R', g, hb⟩ := Grow.tups w bs (isKeys_tup hk)
    exact q p' _ _ R' (g.trans' (.lay g.wf hn)) hn (g.wf.none hn) upd_same (keys_reps r hk hb)
end
end Rb
end
section
set_option Elab.async false
set_option linter.all false
set_option maxRecDepth 100000
set_option maxHeartbeats 4000000
namespace Rb
open PySem L2
section
variable {c : Kx} {H0 R0 : Hp} {Ms : MS} {As : AS} {ta tb te : TE} {A B : Asr} {K : PySem.W.Frag} {d e : PyData} {t u : TT} {tu : TS} {D : Ends} {C : L2.St → Hp → Prop}
/-- what is walked is told by a letter -/
def EvIX (c : Kx) (Ms : MS) (As : AS) (wi : TI) {ι : Type} (P : ι → Prop) (ds : ι → List PyData) : Prop := ∀ σ H R, Sit c Ms As σ H R → ∀ Rk : It → Hp → Prop, (∀ i J H' R', P i → Grow c H R H' R' → Wk c J R' (ds i) → Rk J H') → wi σ H Rk
theorem ei_listX {ι : Type} {P : ι → Prop} {ds : ι → List PyData} (h : Ev c Ms As te (exA P fun i => dp (.list (ds i)))) : EvIX c Ms As (iList K te) P ds := fun σ H R s Rk q =>
  h.bind s fun v H1 R1 g1 s1 ⟨i, hP, a⟩ => by
    have a' : Rep R1 v (.list (ds i)) := a
    cases a' with
    | lst a1 a2 => exact ⟨_, rfl, ⟨_, .inl (.inl (s1.wf.sub _ _ a1))⟩, q i _ H1 R1 hP g1 (wk_list a1 a2)⟩
theorem ei_r1X {P : Int → Prop} (h : Ev c Ms As te (inA P)) (hn : ∀ n, P n → -100000 ≤ n ∧ n ≤ 100000) : EvIX c Ms As (iRng1 (tCons te tNil)) P (fun n => rgD 0 n.toNat) := fun σ H R s Rk q =>
  h.bind s fun v H1 R1 g1 s1 ⟨n, hP, a⟩ => by
    cases a
    have := hn n hP
    exact ⟨n, rfl, by omega, by omega, q n _ H1 R1 hP g1 wk_range⟩
theorem ev_slLX {ι : Type} {P : ι → Prop} {ds : ι → List PyData} {tl th : TO} {lo hi : Option Int} (ha : Ev c Ms As te (exA P fun i => dp (.list (ds i)))) (h1 : EvO c Ms As tl lo) (h2 : EvO c Ms As th hi) : Ev c Ms As (tSl (rSlL K) te tl th) (exA P fun i => dp (.list (cutD (ds i) lo hi))) := fun σ H R s Q q =>
  ha.bind s fun x H1 R1 g1 s1 ⟨i, hP, a⟩ => by
    have a' : Rep R1 x (.list (ds i)) := a
    cases a' with
    | lst b1 b2 =>
      rename_i p vs _
      refine h1 σ H1 R1 s1 _ fun H2 R2 g2 => h2 σ H2 R2 (s1.grow g2) _ fun H3 R3 g3 => ?_
      have g := (g1.trans s.wf g2).trans s.wf g3
      have hb : H3 p = some (.lst vs) := g.wf.sub _ _ (g3.rr _ _ (g2.rr _ _ b1))
      have rr : Reps R3 vs (ds i) := (b2.mono g2.rr).mono g3.rr
      refine ⟨_, _, rfl, .inl (.inl hb), fun l hn => ?_⟩
      have hl := rr.length
      refine q _ _ _ (g.trans s.wf (.new g.wf hn)) ⟨i, hP, .lst upd_same ?_⟩
      have e : L2.cutV vs lo hi = (vs.drop (HT.sIx vs.length 0 lo)).take (HT.sIx vs.length vs.length hi - HT.sIx vs.length 0 lo) := rfl
      have key : Reps R3 (L2.cutV vs lo hi) (cutD (ds i) lo hi) := by
        unfold cutD
        rw [e, hl]
        exact (rr.drop _).take _
      exact key.mono (same_new (g.wf.none hn))
theorem go_forX {ι : Type} {P : ι → Prop} {ds : ι → List PyData} {wi : TI} {j : Nat} (hi : EvIX c Ms As wi P ds) (I : ι → Nat → MS → AS → Prop) (h0 : ∀ x, P x → I x 0 Ms As)
    (hs : ∀ x, P x → ∀ Rb, Bs H0 R0 Rb → ∀ i d Ms As, (ds x)[i]? = some d → I x i Ms As → Go c H0 Rb Ms (As.set j (some (dp d))) (tu { D with nx := Inv c H0 Rb (I x (i + 1)), ct := Inv c H0 Rb (I x (i + 1)), bk := D.nx }))
    (hd : ∀ x, P x → ∀ Ms As, I x (ds x).length Ms As → Go c H0 R0 Ms As D.nx) : Go c H0 R0 Ms As (tFor wi (gName j) tu D) := fun σ H R gw s =>
  hi σ H R s _ fun x J H1 R1 hP g1 wk => by
    have gs := gw.trans' g1
    have bs : Bs H0 R0 R1 := ⟨gs.rr, gs.fr⟩
    have gb : Grow c H0 R1 H1 R1 := ⟨gs.gr, Same.refl R1, fun _ _ h => .inl h, gs.wf⟩
    refine ⟨fun i m σ' H' => m = (ds x).length - i ∧ i ≤ (ds x).length ∧ Inv c H0 R1 (I x i) σ' H', ⟨(ds x).length, by simp, Nat.zero_le _, R1, Ms, As, h0 x hP, gb, s.grow g1⟩, ?_⟩
    rintro i m σ' H' ⟨rfl, hle, R', Ms', As', hI, g', s'⟩
    by_cases hlt : i < (ds x).length
    · refine .inr ⟨wk.goes i H' R' hlt s'.wf g'.rr, Inv c H0 R1 (I x (i + 1)), fun σ2 H2 z => ⟨(ds x).length - (i + 1), by omega, rfl, hlt, z⟩, fun v H2 y => ?_⟩
      have hx : (ds x)[i]? = some (ds x)[i] := List.getElem?_eq_getElem hlt
      obtain ⟨R2, g2, rx⟩ := wk.yields i _ H' R' v H2 hx s'.wf g'.rr y
      have s2 := s'.grow g2
      refine tg_name v σ' H2 R2 As' s2.wf.sub s2.sl rx _ fun σ3 s3 _ => ?_
      exact hs x hP R1 bs i _ Ms' As' hx hI σ3 H2 R2 (g'.trans' g2) ⟨s2.wf, s2.mu, s3⟩
    · have e : i = (ds x).length := by omega
      subst e
      exact .inl ⟨wk.stops H' R' s'.wf g'.rr, hd x hP Ms' As' hI σ' H' R' (g'.base bs) s'⟩
/-- a comprehension whose items are only known to be so and so -/
theorem el_lcX {α β ι : Type} {wi : TI} {g : TG} {vs js : List Nat} {Pi : ι → Prop} {xs : ι → List α} (enc : α → PyData) (f : β → PyData) (Pb : α → β → Prop) {fA : α → AS → AS} (hi : EvIX c Ms As wi Pi (fun i => (xs i).map enc)) (hg : ∀ x, TgOk g (enc x) (fA x) js)
    (he : ∀ i, Pi i → ∀ x ∈ xs i, Ev c Ms (fA x (wipeA As vs)) te (exA (Pb x) fun b => dp (f b))) (hl : ∀ i, Pi i → (xs i).length ≤ 100000) (hj : ∀ j ∈ js, j ∈ vs) :
    EvLX c Ms As (tLc wi g tYes te vs) fun ds => ∃ i, Pi i ∧ ∃ bs : List β, Paired Pb (xs i) bs ∧ ds = bs.map f := fun σ H R s Q q =>
  hi σ H R s _ fun it J H1 R1 hPi g1 wk X hX => by
    have hDH : H X = none := g1.back hX
    have dA : X ∉ c.A0 := fun z => by obtain ⟨u, hu⟩ := c.alive g1.wf.j X z; rw [hX] at hu; cases hu
    have dM : X ∉ c.Mu := fun z => dA (c.sub X z)
    have hll := hl it hPi
    refine ⟨fun i m H' => m = (xs it).length - i ∧ i ≤ (xs it).length ∧ ∃ R' acc bs, Grow c H1 R1 H' R' ∧ R' X = none ∧ H' X = some (.lst acc) ∧ Paired Pb ((xs it).take i) bs ∧ Reps R' acc (bs.map f), ⟨(xs it).length, by simp, Nat.zero_le _, R1, [], [], .lay g1.wf hX, g1.wf.none hX, upd_same, .nil, .nil⟩, ?_⟩
    rintro i m H' ⟨rfl, hle, R', acc, bs, g2, hn, hd, pb, ra⟩
    have hbl : bs.length = i := by
      have := paired_len pb
      rw [List.length_take] at this
      omega
    by_cases hlt : i < (xs it).length
    · refine .inr ⟨wk.goes i H' R' (by simpa using hlt) g2.wf g2.rr, fun H'' => i + 1 ≤ (xs it).length ∧ ∃ R' acc bs, Grow c H1 R1 H'' R' ∧ R' X = none ∧ H'' X = some (.lst acc) ∧ Paired Pb ((xs it).take (i + 1)) bs ∧ Reps R' acc (bs.map f), fun H'' z => ⟨(xs it).length - (i + 1), by omega, rfl, z⟩, fun x H2 y => ?_⟩
      have hx : (xs it)[i]? = some (xs it)[i] := List.getElem?_eq_getElem hlt
      have mx : (xs it)[i] ∈ xs it := List.getElem_mem hlt
      obtain ⟨R2, g3, rx⟩ := wk.yields i (enc (xs it)[i]) H' R' x H2 (by rw [List.getElem?_map, hx]; rfl) g2.wf g2.rr y
      have gg := g2.trans g1.wf g3
      have hn2 : R2 X = none := g3.keepNone hn hd dM
      have hd2 : H2 X = some (.lst acc) := g3.gr X _ dM hd
      have sl : Slots (wipeA As vs) (L2.wipe σ vs) R2 := (s.sl.wipe vs).mono (g1.rr.trans gg.rr)
      refine hg _ x _ H2 R2 _ gg.wf.sub sl rx _ fun σ2 s2 hw => ⟨(hw vs hj).trans wipe_wipe, ?_⟩
      have st : Sit c Ms (fA (xs it)[i] (wipeA As vs)) σ2 H2 R2 := ⟨gg.wf, s.mu.grow (g1.trans s.wf gg), s2⟩
      refine he it hPi _ mx σ2 H2 R2 st _ fun v H4 R4 g5 ⟨b, hb, rv⟩ => ?_
      have gb := gg.trans g1.wf g5
      have hd4 : H4 X = some (.lst acc) := g5.gr X _ dM hd2
      have hn4 : R4 X = none := g5.keepNone hn2 hd2 dM
      have ra4 : Reps R4 acc (bs.map f) := ra.mono (g3.rr.trans g5.rr)
      obtain ⟨z1, z2, z3⟩ := acc_step gb hX dA hn4 hd4 ra4 rv
      refine ⟨acc, hd4, ?_, hlt, R4, acc ++ [v], bs ++ [b], z1, hn4, z2, ?_, ?_⟩
      · rw [ra4.length, List.length_map, hbl]
        exact Nat.lt_of_lt_of_le (show i < 100001 by omega) (by decide)
      · rw [take_snoc hx]
        exact Paired.app pb (.cons hb .nil)
      · rw [List.map_append]
        exact z3
    · have e : i = (xs it).length := by omega
      subst e
      refine .inl ⟨by have h := wk.stops H' R' g2.wf g2.rr; rw [List.length_map] at h; exact h, ?_⟩
      rw [List.take_length] at pb
      exact q X acc _ H' R' ⟨it, hPi, bs, pb, rfl⟩ (g1.trans s.wf g2) hDH hn hd ra
theorem EvI.x {wi : TI} {ds : List PyData} (h : EvI c Ms As wi ds) : EvIX c Ms As wi (fun _ : Unit => True) fun _ => ds := fun σ H R s Rk q => h σ H R s Rk fun J H' R' g w => q () J H' R' trivial g w
end
end Rb
namespace Rb
open PySem L2
section
variable {c : Kx} {H0 R0 : Hp} {Ms : MS} {As : AS} {ta tb te : TE} {A B : Asr} {K : PySem.W.Frag} {d e : PyData}
/-- d[k] of a dict that is told by a letter -/
theorem ev_dgetTX {ι : Type} {P : ι → Prop} {kvs : ι → List (List Int × PyData)} {k : List Int} (ha : Ev c Ms As ta (exA P fun i => dicT (kvs i))) (hb : Ev c Ms As tb (dp (.tuple (intsD k)))) (hk : ∀ i, P i → getK (kvs i) k = some d) :
    Ev c Ms As (tDGet ta tb) (dp d) := fun σ H R s Q q =>
  ha.bind s fun x H1 R1 g1 s1 ⟨i, hP, a⟩ => hb.bind s1 fun y H2 R2 g2 s2 b => by
    cases b with
    | tup b1 b2 =>
      have e := b2.toInts
      subst e
      obtain ⟨p, es, rfl, hp, r⟩ := (dicT (kvs i)).mono g2.rr a
      obtain ⟨v, hv, rv⟩ := r.get (hk i hP)
      exact ⟨p, v, rfl, by rw [← hv]; exact DGet.t (s2.wf.sub _ _ hp) (by rw [kV_ints]; exact s2.wf.sub _ _ b1), q v H2 R2 (g1.trans s.wf g2) rv⟩
end
end Rb
end
section
set_option Elab.async false
set_option linter.all false
set_option maxRecDepth 100000
set_option maxHeartbeats 4000000
namespace Rb
open PySem PySem.Spec PyProof.Rows L2
/-! ### the text -/
def topS (i : Nat) : Stmt := PySem.Challenge.pw_rowsback_k99_whole_pebbles_and_held_numb.main.body.getD i (.Pass ⟨0, 0, 0, 0⟩)
def dD (x : Str) (i : Nat) : He.DefD := ⟨(x, none), x, x, defArgs (topS i), defBody (topS i), defScope (topS i), [], []⟩
def fnL : List He.DefD := [dD "is_integer" 11, dD "measure" 12, dD "sizes" 13, dD "step_value" 14, dD "values" 15, dD "told" 16, dD "steps_used" 17, dD "needed" 18, dD "users_of" 20, dD "is_order" 21, dD "require_order" 22, dD "held_of" 23, dD "held_rows" 24, dD "held" 25, dD "load" 26, dD "slots" 27, dD "is_wood" 28, dD "needs_of" 29, dD "tree_order" 30, dD "wood_order" 31, dD "require_few" 32, dD "lots_of" 33, dD "last_ones" 34, dD "without" 35, dD "best_loads" 36, dD "least_load" 37, dD "best_order" 38, dD "counted" 39, dD "orders_counted" 40, dD "step_by" 42, dD "checked" 43, dD "beside" 44, dD "best_parting" 47, dD "least_acts" 48, dD "pebbles_needed" 49, dD "acts_needed" 50, dD "acts_of" 51, dD "pebble_way" 52, dD "acted" 53, dD "is_way" 54, dD "farthest" 55, dD "_law_deck" 57, dD "_law_draw" 58, dD "_law_one" 59, dD "_law_mixed" 60, dD "_law_far" 61, dD "_law_number" 62, dD "_law_point" 63, dD "_law_size" 64, dD "_law_row" 65, dD "_law_used" 66, dD "_law_needed" 67, dD "_law_order" 68, dD "_law_wood" 69, dD "_law_choose" 70, dD "_law_pebbles_right" 71, dD "_law_laid" 72, dD "law" 73]
theorem b_len : bootBuiltins "len" = some (.builtin "len") := by decide +kernel
theorem b_range : bootBuiltins "range" = some (.type "range") := by decide +kernel
theorem b_sorted : bootBuiltins "sorted" = some (.builtin "sorted") := by decide +kernel
theorem b_set : bootBuiltins "set" = some (.type "set") := by decide +kernel
theorem b_tuple : bootBuiltins "tuple" = some (.type "tuple") := by decide +kernel
theorem b_list : bootBuiltins "list" = some (.type "list") := by decide +kernel
theorem b_max : bootBuiltins "max" = some (.builtin "max") := by decide +kernel
theorem b_min : bootBuiltins "min" = some (.builtin "min") := by decide +kernel
theorem b_all : bootBuiltins "all" = some (.builtin "all") := by decide +kernel
theorem b_any : bootBuiltins "any" = some (.builtin "any") := by decide +kernel
theorem b_sum : bootBuiltins "sum" = some (.builtin "sum") := by decide +kernel
theorem b_isinstance : bootBuiltins "isinstance" = some (.builtin "isinstance") := by decide +kernel
theorem b_enumerate : bootBuiltins "enumerate" = some (.type "enumerate") := by decide +kernel
theorem b_zip : bootBuiltins "zip" = some (.type "zip") := by decide +kernel
theorem b_int : bootBuiltins "int" = some (.type "int") := by decide +kernel
theorem b_abs : bootBuiltins "abs" = some (.builtin "abs") := by decide +kernel
theorem b_dict : bootBuiltins "dict" = some (.type "dict") := by decide +kernel
theorem b_bool : bootBuiltins "bool" = some (.type "bool") := by decide +kernel
/-- what the top leaves -/
structure Txt (K : PySem.W.Frag) (mg : Str → Option Value) : Prop where
  fn : ∀ d ∈ fnL, ∃ (f : Addr) (fd : FuncData), mg d.name = some (.ref f) ∧ FunD K d.name d.qual d.params d.body d.scope [] [] f fd
  b_len : mg "len" = none
  b_range : mg "range" = none
  b_sorted : mg "sorted" = none
  b_set : mg "set" = none
  b_tuple : mg "tuple" = none
  b_list : mg "list" = none
  b_max : mg "max" = none
  b_min : mg "min" = none
  b_all : mg "all" = none
  b_any : mg "any" = none
  b_sum : mg "sum" = none
  b_isinstance : mg "isinstance" = none
  b_enumerate : mg "enumerate" = none
  b_zip : mg "zip" = none
  b_int : mg "int" = none
  b_abs : mg "abs" = none
  b_dict : mg "dict" = none
  b_bool : mg "bool" = none
  k_MAX_WIDE : ∃ u, mg "MAX_WIDE" = some u ∧ RelV (.int 20) u
  k_MAX_LONG : ∃ u, mg "MAX_LONG" = some u ∧ RelV (.int 400) u
  k_MAX_SIZE : ∃ u, mg "MAX_SIZE" = some u ∧ RelV (.int 64) u
  k_MAX_LINE : ∃ u, mg "MAX_LINE" = some u ∧ RelV (.int 60) u
  k_MAX_HELD : ∃ u, mg "MAX_HELD" = some u ∧ RelV (.int 12) u
  k_NEVER : ∃ u, mg "NEVER" = some u ∧ RelV (.int 1000000000000000000000000000000) u
section
variable {P : Program} {w : World} {K : PySem.W.Frag} {mg : Str → Option Value} {base : Heap}
/-- a def's promise from its body's derivation and reading -/
theorem mk_cal {x : Str} {i j k : Nat} {N ps : List Str} {sp : Sp} (T : Txt K mg) (hj : fnL[j]? = some (dD x i)) (S : FnScope N ps (defScope (topS i)))
    (hb : ∀ (kV doc pm : Value) (an : Option Addr) (cdv ct : Value) (us : List Value), us.length = ps.length → bindArgs (PySem.W.fnOf x x (defArgs (topS i)) (defBody (topS i)) (defScope (topS i)) .none kV doc pm an cdv ct) ⟨us, []⟩ = pure (ps.zip us))
    (len : ∀ vs H Q E, sp vs H Q E → vs.length = ps.length)
    (hbody : ∀ (f : Addr) (cdv : Value) (A : Around) (outer : List Env) (s : Shared) (H : Hp) (vs : List V) (Q : VK) (E : XK), Room k (A.deeper (envOfC x (defScope (topS i)) s.heap.objs.size f cdv)) → sp vs H Q E →
      ∃ t, PSs (cxOf CX0 P w K mg base N x (defScope (topS i)) f cdv A outer s H E).nox (defBody (topS i)) t ∧ t { nx := fun _ H' => Q .non H', rt := Q } (L2.start N vs) H) : C8.Cal P w K mg base (k + 1) x sp [] := by
  obtain ⟨f, fd, hm, F⟩ := T.fn _ (List.mem_of_getElem? hj)
  have F' : FunD K x x (defArgs (topS i)) (defBody (topS i)) (defScope (topS i)) [] [] f fd := F
  refine ⟨f, fd, ps, [], F'.ok S len fun cdv A outer s H vs Q E hr hsp => ?_, hm, F'.kp, F'.bindsN hb, .nil⟩
  obtain ⟨t, h, q⟩ := hbody f cdv A outer s H vs Q E hr hsp
  exact ⟨t, h.nox, q⟩
end
/-! ### rows as data -/
def encS (s : Stp) : PyData := .tuple (.str s.word :: intsD s.nums)
def encR (r : Row) : PyData := .tuple [.int (r.inputs : Int), .tuple (r.steps.map encS), .tuple (natsD r.ends)]
end Rb
end
section
set_option Elab.async false
set_option linter.all false
set_option autoImplicit false
set_option maxRecDepth 100000
set_option maxHeartbeats 4000000
set_option exponentiation.threshold 500000
namespace Rb
open PySem PySem.Spec PyProof.Rows L2
section
variable {P : Program} {w : World} {K : PySem.W.Frag} {mg : Str → Option Value} {base : Heap}
/-! ### steps_used -/
abbrev sStepsUsed : Stmt := topS 17
abbrev nStepsUsed : List Str := ["step"]
theorem scStepsUsed : FnScope nStepsUsed ["step"] (defScope sStepsUsed) := ⟨rfl, rfl, rfl, by decide +kernel, rfl, by decide +kernel, by decide +kernel⟩
def usesD (s : Stp) : PyData := .tuple (natsD s.uses)
def spStepsUsed : Sp := fun vs H Q _ => ∃ (Ms : MS) (s : Stp), Pu Ms [dp (encS s)] (dp (usesD s)) vs H Q
theorem cal_steps_used (T : Txt K mg) : C8.Cal P w K mg base 1 "steps_used" spStepsUsed [] := by
  refine mk_cal (x := "steps_used") (i := 17) (j := 6) T rfl scStepsUsed (fun _ _ _ _ _ _ us hl => match us, hl with | [_], _ => rfl) (fun vs H Q E h => ?_) (fun f cdv A outer s H vs Q E hr h => ?_)
  · obtain ⟨Ms, s, R, _, _, h, _⟩ := h
    exact (paired_len h).trans rfl
  obtain ⟨Ms, st, R, wf, mu, ha, q⟩ := h
  refine ⟨_, (pss_one (ps_ret (pe_ifExp (pt_cmpR (k_in K) (pe_ix (k_ix_tup K) (pv 0) pe_int (fun _ _ => rfl)) (pe_tup (pa_cons pe_str (pa_cons pe_str pa_nil))) (by rfl)) (pe_tup pa_nil) (pe_slice (k_slT K) (pv 0) (po_some pe_int) po_none)))), ?_⟩
  refine go_start wf mu ha ?_
  refine go_ret (by exact q) ?_
  cases st <;> first
    | exact ev_ifT (et_test (ev_inS (neg := false) (xs := ["in", "set"]) (ev_ixTn 0 (ev_var (by rfl)) ev_int (by rfl)) (ev_tup2 ev_str ev_str))) (by rfl) ev_tup0
    | exact ev_ifF (et_test (ev_inS (neg := false) (xs := ["in", "set"]) (ev_ixTn 0 (ev_var (by rfl)) ev_int (by rfl)) (ev_tup2 ev_str ev_str))) (by rfl) ((ev_slT (ev_var (by rfl)) (eo_some ev_int) eo_none).to (by rfl))
/-! ### measure, sizes -/
abbrev sMeasure : Stmt := topS 12
abbrev nMeasure : List Str := ["step", "found", "least"]
theorem scMeasure : FnScope nMeasure ["step", "found", "least"] (defScope sMeasure) := ⟨rfl, rfl, rfl, by decide +kernel, rfl, by decide +kernel, by decide +kernel⟩
def intA (n : Int) : Asr := dp (.int n)
def spMeasure : Sp := fun vs H Q _ => ∃ (Ms Ms' : MS) (s : Stp) (found : List Int) (least : Int), Ms' ⊆ Ms ∧ (∀ u ∈ s.uses, u < found.length) ∧ Pu Ms [dp (encS s), lsA Ms' (intsD found), dp (.int least)] (dp (.int (s.measure found least))) vs H Q
theorem ints_get {ns : List Int} {i : Nat} (h : i < ns.length) : (intsD ns)[i]? = some (.int (ns.getD i 0)) := by
  unfold intsD
  rw [List.getElem?_map, List.getElem?_eq_getElem h, List.getD_eq_getElem?_getD, List.getElem?_eq_getElem h]
  rfl
theorem cal_measure (T : Txt K mg) : C8.Cal P w K mg base 1 "measure" spMeasure [] := by
  refine mk_cal (x := "measure") (i := 12) (j := 1) T rfl scMeasure (fun _ _ _ _ _ _ us hl => match us, hl with | [_, _, _], _ => rfl) (fun vs H Q E h => ?_) (fun f cdv A outer s H vs Q E hr h => ?_)
  · obtain ⟨Ms, Ms', s, found, least, _, _, R, _, _, h, _⟩ := h
    exact (paired_len h).trans rfl
  obtain ⟨Ms, Ms', st, found, least, sub, hu, R, wf, mu, ha, q⟩ := h
  refine ⟨_, (pss_cons (ps_if (pt_cmpR op_eq (pe_ix (k_ix_tup K) (pv 0) pe_int (fun _ _ => rfl)) pe_str (nomark _)) (pss_one (ps_ret pe_int)) pss_nil)
      (pss_cons (ps_if (pt_cmpR op_eq (pe_ix (k_ix_tup K) (pv 0) pe_int (fun _ _ => rfl)) pe_str (nomark _)) (pss_one (ps_ret (pv 2))) pss_nil)
      (pss_cons (ps_if (pt_cmpR op_eq (pe_ix (k_ix_tup K) (pv 0) pe_int (fun _ _ => rfl)) pe_str (nomark _)) (pss_one (ps_ret (pe_ix (k_ix_list K) (pv 1) (pe_ix (k_ix_tup K) (pv 0) pe_int (fun _ _ => rfl)) (fun _ _ => rfl)))) pss_nil)
      (pss_cons (ps_if (pt_cmpR op_eq (pe_ix (k_ix_tup K) (pv 0) pe_int (fun _ _ => rfl)) pe_str (nomark _)) (pss_one (ps_ret (pe_op op_add (pe_ix (k_ix_list K) (pv 1) (pe_ix (k_ix_tup K) (pv 0) pe_int (fun _ _ => rfl)) (fun _ _ => rfl)) (pe_ix (k_ix_list K) (pv 1) (pe_ix (k_ix_tup K) (pv 0) pe_int (fun _ _ => rfl)) (fun _ _ => rfl))))) pss_nil)
      (pss_one (ps_ret (pe_callB (call_max2 rfl) (by rfl) T.b_max b_max (pa_cons (pe_ix (k_ix_list K) (pv 1) (pe_ix (k_ix_tup K) (pv 0) pe_int (fun _ _ => rfl)) (fun _ _ => rfl)) (pa_cons (pe_ix (k_ix_list K) (pv 1) (pe_ix (k_ix_tup K) (pv 0) pe_int (fun _ _ => rfl)) (fun _ _ => rfl)) pa_nil))))))))), ?_⟩
  refine go_start wf mu ha ?_
  cases st with
  | inn k =>
    refine go_seq (go_ifT (et_test (ev_eqs (ev_ixTn 0 (ev_var (by rfl)) ev_int (by rfl)) ev_str)) (by rfl) ?_)
    exact go_ret (by exact q) ev_int
  | st k =>
    refine go_seq (go_ifF (et_test (ev_eqs (ev_ixTn 0 (ev_var (by rfl)) ev_int (by rfl)) ev_str)) (by rfl) (go_next ?_))
    refine go_seq (go_ifT (et_test (ev_eqs (ev_ixTn 0 (ev_var (by rfl)) ev_int (by rfl)) ev_str)) (by rfl) ?_)
    exact go_ret (by exact q) (ev_var (by rfl))
  | neg i =>
    refine go_seq (go_ifF (et_test (ev_eqs (ev_ixTn 0 (ev_var (by rfl)) ev_int (by rfl)) ev_str)) (by rfl) (go_next ?_))
    refine go_seq (go_ifF (et_test (ev_eqs (ev_ixTn 0 (ev_var (by rfl)) ev_int (by rfl)) ev_str)) (by rfl) (go_next ?_))
    refine go_seq (go_ifT (et_test (ev_eqs (ev_ixTn 0 (ev_var (by rfl)) ev_int (by rfl)) ev_str)) (by rfl) ?_)
    exact go_ret (by exact q) (ev_ixLn i (ev_var (by rfl)) (ev_ixTn 1 (ev_var (by rfl)) ev_int (by rfl)) (ints_get (hu i (by simp [Stp.uses]))) sub)
  | mul i j =>
    refine go_seq (go_ifF (et_test (ev_eqs (ev_ixTn 0 (ev_var (by rfl)) ev_int (by rfl)) ev_str)) (by rfl) (go_next ?_))
    refine go_seq (go_ifF (et_test (ev_eqs (ev_ixTn 0 (ev_var (by rfl)) ev_int (by rfl)) ev_str)) (by rfl) (go_next ?_))
    refine go_seq (go_ifF (et_test (ev_eqs (ev_ixTn 0 (ev_var (by rfl)) ev_int (by rfl)) ev_str)) (by rfl) (go_next ?_))
    refine go_seq (go_ifT (et_test (ev_eqs (ev_ixTn 0 (ev_var (by rfl)) ev_int (by rfl)) ev_str)) (by rfl) ?_)
    exact go_ret (by exact q) (ev_add (ev_ixLn i (ev_var (by rfl)) (ev_ixTn 1 (ev_var (by rfl)) ev_int (by rfl)) (ints_get (hu i (by simp [Stp.uses]))) sub) (ev_ixLn j (ev_var (by rfl)) (ev_ixTn 2 (ev_var (by rfl)) ev_int (by rfl)) (ints_get (hu j (by simp [Stp.uses]))) sub))
  | add i j =>
    refine go_seq (go_ifF (et_test (ev_eqs (ev_ixTn 0 (ev_var (by rfl)) ev_int (by rfl)) ev_str)) (by rfl) (go_next ?_))
    refine go_seq (go_ifF (et_test (ev_eqs (ev_ixTn 0 (ev_var (by rfl)) ev_int (by rfl)) ev_str)) (by rfl) (go_next ?_))
    refine go_seq (go_ifF (et_test (ev_eqs (ev_ixTn 0 (ev_var (by rfl)) ev_int (by rfl)) ev_str)) (by rfl) (go_next ?_))
    refine go_seq (go_ifF (et_test (ev_eqs (ev_ixTn 0 (ev_var (by rfl)) ev_int (by rfl)) ev_str)) (by rfl) (go_next ?_))
    exact go_ret (by exact q) (ev_max2 (ev_ixLn i (ev_var (by rfl)) (ev_ixTn 1 (ev_var (by rfl)) ev_int (by rfl)) (ints_get (hu i (by simp [Stp.uses]))) sub) (ev_ixLn j (ev_var (by rfl)) (ev_ixTn 2 (ev_var (by rfl)) ev_int (by rfl)) (ints_get (hu j (by simp [Stp.uses]))) sub))
  | sub i j =>
    refine go_seq (go_ifF (et_test (ev_eqs (ev_ixTn 0 (ev_var (by rfl)) ev_int (by rfl)) ev_str)) (by rfl) (go_next ?_))
    refine go_seq (go_ifF (et_test (ev_eqs (ev_ixTn 0 (ev_var (by rfl)) ev_int (by rfl)) ev_str)) (by rfl) (go_next ?_))
    refine go_seq (go_ifF (et_test (ev_eqs (ev_ixTn 0 (ev_var (by rfl)) ev_int (by rfl)) ev_str)) (by rfl) (go_next ?_))
    refine go_seq (go_ifF (et_test (ev_eqs (ev_ixTn 0 (ev_var (by rfl)) ev_int (by rfl)) ev_str)) (by rfl) (go_next ?_))
    exact go_ret (by exact q) (ev_max2 (ev_ixLn i (ev_var (by rfl)) (ev_ixTn 1 (ev_var (by rfl)) ev_int (by rfl)) (ints_get (hu i (by simp [Stp.uses]))) sub) (ev_ixLn j (ev_var (by rfl)) (ev_ixTn 2 (ev_var (by rfl)) ev_int (by rfl)) (ints_get (hu j (by simp [Stp.uses]))) sub))
/-! ### step_value -/
abbrev sStepValue : Stmt := topS 14
abbrev nStepValue : List Str := ["step", "point", "found", "one", "other"]
theorem scStepValue : FnScope nStepValue ["step", "point", "found"] (defScope sStepValue) := ⟨rfl, rfl, rfl, by decide +kernel, rfl, by decide +kernel, by decide +kernel⟩
/-- all numbers are small enough to be multiplied -/
def Small (ns : List Int) : Prop := ∀ n ∈ ns, n.natAbs < 2 ^ 400000
def spStepValue : Sp := fun vs H Q _ => ∃ (Ms Ms' : MS) (s : Stp) (point found : List Int), Ms' ⊆ Ms ∧ (∀ u ∈ s.uses, u < found.length) ∧ (∀ k, s = .inn k → k < point.length) ∧ Small found ∧
  Pu Ms [dp (encS s), dp (.tuple (intsD point)), lsA Ms' (intsD found)] (dp (.int (s.value point found))) vs H Q
theorem Small.mul {ns : List Int} (h : Small ns) (i j : Nat) : CMulW (ns.getD i 0) (ns.getD j 0) := by
  have q : ∀ i, (ns.getD i 0).natAbs < 2 ^ 400000 := fun i => by
    rw [List.getD_eq_getElem?_getD]
    cases e : ns[i]? with
    | none => exact Nat.two_pow_pos _
    | some x => exact h x (List.mem_of_getElem? e)
  exact wide_mul (q i) (q j) (by omega) (by omega) (by omega)
theorem cal_step_value (T : Txt K mg) : C8.Cal P w K mg base 1 "step_value" spStepValue [] := by
  refine mk_cal (x := "step_value") (i := 14) (j := 3) T rfl scStepValue (fun _ _ _ _ _ _ us hl => match us, hl with | [_, _, _], _ => rfl) (fun vs H Q E h => ?_) (fun f cdv A outer s H vs Q E hr h => ?_)
  · obtain ⟨Ms, Ms', s, point, found, _, _, _, _, R, _, _, h, _⟩ := h
    exact (paired_len h).trans rfl
  obtain ⟨Ms, Ms', st, point, found, sub, hu, hk, hs, R, wf, mu, ha, q⟩ := h
  refine ⟨_, (pss_cons (ps_if (pt_cmpR op_eq (pe_ix (k_ix_tup K) (pv 0) pe_int (fun _ _ => rfl)) pe_str (nomark _)) (pss_one (ps_ret (pe_ix (k_ix_tup K) (pv 1) (pe_ix (k_ix_tup K) (pv 0) pe_int (fun _ _ => rfl)) (fun _ _ => rfl)))) pss_nil)
      (pss_cons (ps_if (pt_cmpR op_eq (pe_ix (k_ix_tup K) (pv 0) pe_int (fun _ _ => rfl)) pe_str (nomark _)) (pss_one (ps_ret (pe_ix (k_ix_tup K) (pv 0) pe_int (fun _ _ => rfl)))) pss_nil)
      (pss_cons (ps_if (pt_cmpR op_eq (pe_ix (k_ix_tup K) (pv 0) pe_int (fun _ _ => rfl)) pe_str (nomark _)) (pss_one (ps_ret (pe_op op_sub pe_int (pe_ix (k_ix_list K) (pv 2) (pe_ix (k_ix_tup K) (pv 0) pe_int (fun _ _ => rfl)) (fun _ _ => rfl))))) pss_nil)
      (pss_cons (ps_par (i := 3) (j := 4) rfl scStepValue.nd rfl rfl (by decide) rfl rfl (pa_cons (pe_ix (k_ix_list K) (pv 2) (pe_ix (k_ix_tup K) (pv 0) pe_int (fun _ _ => rfl)) (fun _ _ => rfl)) (pa_cons (pe_ix (k_ix_list K) (pv 2) (pe_ix (k_ix_tup K) (pv 0) pe_int (fun _ _ => rfl)) (fun _ _ => rfl)) pa_nil)) (by rfl))
      (pss_cons (ps_if (pt_cmpR op_eq (pe_ix (k_ix_tup K) (pv 0) pe_int (fun _ _ => rfl)) pe_str (nomark _)) (pss_one (ps_ret (pe_op op_add (pv 3) (pv 4)))) pss_nil)
      (pss_one (ps_ret (pe_ifExp (pt_cmpR op_eq (pe_ix (k_ix_tup K) (pv 0) pe_int (fun _ _ => rfl)) pe_str (nomark _)) (pe_op op_sub (pv 3) (pv 4)) (pe_op op_mulW (pv 3) (pv 4)))))))))), ?_⟩
  refine go_start wf mu ha ?_
  cases st with
  | inn k =>
    refine go_seq (go_ifT (et_test (ev_eqs (ev_ixTn 0 (ev_var (by rfl)) ev_int (by rfl)) ev_str)) (by rfl) ?_)
    exact go_ret (by exact q) (ev_ixTn k (ev_var (by rfl)) (ev_ixTn 1 (ev_var (by rfl)) ev_int (by rfl)) (ints_get (hk k rfl)))
  | st k =>
    refine go_seq (go_ifF (et_test (ev_eqs (ev_ixTn 0 (ev_var (by rfl)) ev_int (by rfl)) ev_str)) (by rfl) (go_next ?_))
    refine go_seq (go_ifT (et_test (ev_eqs (ev_ixTn 0 (ev_var (by rfl)) ev_int (by rfl)) ev_str)) (by rfl) ?_)
    exact go_ret (by exact q) (ev_ixTn 1 (ev_var (by rfl)) ev_int (by rfl))
  | neg i =>
    refine go_seq (go_ifF (et_test (ev_eqs (ev_ixTn 0 (ev_var (by rfl)) ev_int (by rfl)) ev_str)) (by rfl) (go_next ?_))
    refine go_seq (go_ifF (et_test (ev_eqs (ev_ixTn 0 (ev_var (by rfl)) ev_int (by rfl)) ev_str)) (by rfl) (go_next ?_))
    refine go_seq (go_ifT (et_test (ev_eqs (ev_ixTn 0 (ev_var (by rfl)) ev_int (by rfl)) ev_str)) (by rfl) ?_)
    exact go_ret (by exact q) (ev_sub ev_int (ev_ixLn i (ev_var (by rfl)) (ev_ixTn 1 (ev_var (by rfl)) ev_int (by rfl)) (ints_get (hu i (by simp [Stp.uses]))) sub))
  | add i j =>
    refine go_seq (go_ifF (et_test (ev_eqs (ev_ixTn 0 (ev_var (by rfl)) ev_int (by rfl)) ev_str)) (by rfl) (go_next ?_))
    refine go_seq (go_ifF (et_test (ev_eqs (ev_ixTn 0 (ev_var (by rfl)) ev_int (by rfl)) ev_str)) (by rfl) (go_next ?_))
    refine go_seq (go_ifF (et_test (ev_eqs (ev_ixTn 0 (ev_var (by rfl)) ev_int (by rfl)) ev_str)) (by rfl) (go_next ?_))
    refine go_seq (go_par (ea_cons (ev_ixLn i (ev_var (by rfl)) (ev_ixTn 1 (ev_var (by rfl)) ev_int (by rfl)) (ints_get (hu i (by simp [Stp.uses]))) sub) (ea_cons (ev_ixLn j (ev_var (by rfl)) (ev_ixTn 2 (ev_var (by rfl)) ev_int (by rfl)) (ints_get (hu j (by simp [Stp.uses]))) sub) ea_nil)) ?_)
    refine go_seq (go_ifT (et_test (ev_eqs (ev_ixTn 0 (ev_var (by rfl)) ev_int (by rfl)) ev_str)) (by rfl) ?_)
    exact go_ret (by exact q) (ev_add (ev_var (by rfl)) (ev_var (by rfl)))
  | sub i j =>
    refine go_seq (go_ifF (et_test (ev_eqs (ev_ixTn 0 (ev_var (by rfl)) ev_int (by rfl)) ev_str)) (by rfl) (go_next ?_))
    refine go_seq (go_ifF (et_test (ev_eqs (ev_ixTn 0 (ev_var (by rfl)) ev_int (by rfl)) ev_str)) (by rfl) (go_next ?_))
    refine go_seq (go_ifF (et_test (ev_eqs (ev_ixTn 0 (ev_var (by rfl)) ev_int (by rfl)) ev_str)) (by rfl) (go_next ?_))
    refine go_seq (go_par (ea_cons (ev_ixLn i (ev_var (by rfl)) (ev_ixTn 1 (ev_var (by rfl)) ev_int (by rfl)) (ints_get (hu i (by simp [Stp.uses]))) sub) (ea_cons (ev_ixLn j (ev_var (by rfl)) (ev_ixTn 2 (ev_var (by rfl)) ev_int (by rfl)) (ints_get (hu j (by simp [Stp.uses]))) sub) ea_nil)) ?_)
    refine go_seq (go_ifF (et_test (ev_eqs (ev_ixTn 0 (ev_var (by rfl)) ev_int (by rfl)) ev_str)) (by rfl) (go_next ?_))
    exact go_ret (by exact q) (ev_ifT (et_test (ev_eqs (ev_ixTn 0 (ev_var (by rfl)) ev_int (by rfl)) ev_str)) (by rfl) (ev_sub (ev_var (by rfl)) (ev_var (by rfl))))
  | mul i j =>
    refine go_seq (go_ifF (et_test (ev_eqs (ev_ixTn 0 (ev_var (by rfl)) ev_int (by rfl)) ev_str)) (by rfl) (go_next ?_))
    refine go_seq (go_ifF (et_test (ev_eqs (ev_ixTn 0 (ev_var (by rfl)) ev_int (by rfl)) ev_str)) (by rfl) (go_next ?_))
    refine go_seq (go_ifF (et_test (ev_eqs (ev_ixTn 0 (ev_var (by rfl)) ev_int (by rfl)) ev_str)) (by rfl) (go_next ?_))
    refine go_seq (go_par (ea_cons (ev_ixLn i (ev_var (by rfl)) (ev_ixTn 1 (ev_var (by rfl)) ev_int (by rfl)) (ints_get (hu i (by simp [Stp.uses]))) sub) (ea_cons (ev_ixLn j (ev_var (by rfl)) (ev_ixTn 2 (ev_var (by rfl)) ev_int (by rfl)) (ints_get (hu j (by simp [Stp.uses]))) sub) ea_nil)) ?_)
    refine go_seq (go_ifF (et_test (ev_eqs (ev_ixTn 0 (ev_var (by rfl)) ev_int (by rfl)) ev_str)) (by rfl) (go_next ?_))
    exact go_ret (by exact q) (ev_ifF (et_test (ev_eqs (ev_ixTn 0 (ev_var (by rfl)) ev_int (by rfl)) ev_str)) (by rfl) (ev_mul (ev_var (by rfl)) (ev_var (by rfl)) (hs.mul i j)))
/-! ### sizes, values, told -/
abbrev sSizes : Stmt := topS 13
abbrev nSizes : List Str := ["row", "found", "step"]
theorem scSizes : FnScope nSizes ["row"] (defScope sSizes) := ⟨rfl, rfl, rfl, by decide +kernel, rfl, by decide +kernel, by decide +kernel⟩
theorem encR_steps (r : Row) : [PyData.int (r.inputs : Int), .tuple (r.steps.map encS), .tuple (natsD r.ends)][1]? = some (.tuple (r.steps.map encS)) := rfl
def spSizes : Sp := fun vs H Q _ => ∃ (Ms : MS) (r : Row), r.Ok ∧ Pu Ms [dp (encR r)] (dp (.tuple (intsD (sizesOf r.steps)))) vs H Q
theorem ints_snoc (ns : List Int) (n : Int) : intsD ns ++ [.int n] = intsD (ns ++ [n]) := by unfold intsD; rw [List.map_append]; rfl
theorem ints_len (ns : List Int) : (intsD ns).length = ns.length := by simp [intsD]
theorem cal_sizes (T : Txt K mg) (c_measure : C8.Cal P w K mg base 1 "measure" spMeasure []) : C8.Cal P w K mg base 2 "sizes" spSizes [] := by
  refine mk_cal (x := "sizes") (i := 13) (j := 2) T rfl scSizes (fun _ _ _ _ _ _ us hl => match us, hl with | [_], _ => rfl) (fun vs H Q E h => ?_) (fun f cdv A outer s H vs Q E hr h => ?_)
  · obtain ⟨Ms, r, _, R, _, _, h, _⟩ := h
    exact (paired_len h).trans rfl
  obtain ⟨Ms, r, ok, R, wf, mu, ha, q⟩ := h
  refine ⟨_, (pss_cons (ps_set (i := 1) scSizes.nd rfl (by first | exact Or.inl rfl | exact Or.inr rfl) (pe_lst pa_nil))
      (pss_cons (ps_for PassesOwn.never rfl (k_pi_tup K (pe_ix (k_ix_tup K) (pv 0) pe_int (fun _ _ => rfl))) (pg_name (i := 2) scSizes.nd rfl (by first | exact Or.inl rfl | exact Or.inr rfl))
      (pss_one (ps_expr (k_bm K PySem.F.plainAttrs_list PySem.F.slot_list_append PySem.F.type_list_append mt_append (pv 1) (pa_cons (C8.pe_c c_measure hr (by decide) rfl (pa_cons (pv 2) (pa_cons (pv 1) (pa_cons pe_int pa_nil)))) pa_nil)))))
      (pss_one (ps_ret (pe_callTy (k_tupof K) (by rfl) T.b_tuple b_tuple (pa_cons (pv 1) pa_nil)))))), ?_⟩
  refine go_start wf mu ha ?_
  refine go_seq (go_own el_lst0.n fun p h0 => ?_)
  refine go_seq (go_forE r.steps encS (ei_tup (ev_ixTn 1 (ev_var (by rfl)) ev_int (by rfl)))
    (fun i Ms' As' => Ms' = (p, .lst (intsD (sizesOf (r.steps.take i)))) :: Ms ∧ ∃ X, As' = [some (dp (encR r)), some (valA (.ref p)), X]) ⟨rfl, _, rfl⟩ ?_ ?_)
  · rintro Rb hb k x Ms' As' hx ⟨rfl, X, rfl⟩
    have hk := (List.getElem?_eq_some_iff.mp hx).1
    have hl : (sizesOf (r.steps.take k)).length = k := by rw [sizesOf_len, List.length_take]; omega
    refine go_app 0 (ev_var (by rfl)) (ev_call (ea_cons (ev_var (by rfl)) (ea_cons (Ev.own (ev_var (by rfl)) (List.mem_cons_self)) (ea_cons ev_int ea_nil)))
      (fun vs H Q h => ⟨_, _, x, sizesOf (r.steps.take k), 1, List.Subset.refl _, fun u hu => by rw [hl]; exact ok.lt k x hx u hu, h⟩)) (by rfl) h0 (by rw [ints_len, hl]; have := ok.len; omega) (go_inv ⟨?_, _, rfl⟩)
    rw [ints_snoc, take_snoc hx, sizesOf_snoc]
    rfl
  · rintro Ms' As' ⟨rfl, X, rfl⟩
    rw [List.take_length]
    exact go_ret (by exact q) (ev_tupleOf (Ev.own (ev_var (by rfl)) (List.mem_cons_self)))
end
end Rb
end
section
set_option Elab.async false
set_option linter.all false
set_option autoImplicit false
set_option maxRecDepth 100000
set_option maxHeartbeats 4000000
set_option exponentiation.threshold 500000
namespace Rb
open PySem PySem.Spec PyProof.Rows L2
section
variable {P : Program} {w : World} {K : PySem.W.Frag} {mg : Str → Option Value} {base : Heap}
abbrev sValues : Stmt := topS 15
abbrev nValues : List Str := ["row", "point", "found", "step"]
theorem scValues : FnScope nValues ["row", "point"] (defScope sValues) := ⟨rfl, rfl, rfl, by decide +kernel, rfl, by decide +kernel, by decide +kernel⟩
def SmallPt (r : Row) (pt : List Int) : Prop := ∀ k, Small (valuesOf (r.steps.take k) pt)
def spValues : Sp := fun vs H Q _ => ∃ (Ms : MS) (r : Row) (pt : List Int), r.Ok ∧ pt.length = r.inputs ∧ SmallPt r pt ∧ Pu Ms [dp (encR r), dp (.tuple (intsD pt))] (dp (.tuple (intsD (valuesOf r.steps pt)))) vs H Q
theorem cal_values (T : Txt K mg) (c_step_value : C8.Cal P w K mg base 1 "step_value" spStepValue []) : C8.Cal P w K mg base 2 "values" spValues [] := by
  refine mk_cal (x := "values") (i := 15) (j := 4) T rfl scValues (fun _ _ _ _ _ _ us hl => match us, hl with | [_, _], _ => rfl) (fun vs H Q E h => ?_) (fun f cdv A outer s H vs Q E hr h => ?_)
  · obtain ⟨Ms, r, pt, _, _, _, R, _, _, h, _⟩ := h
    exact (paired_len h).trans rfl
  obtain ⟨Ms, r, pt, ok, hp, sm, R, wf, mu, ha, q⟩ := h
  refine ⟨_, (pss_cons (ps_set (i := 2) scValues.nd rfl (by first | exact Or.inl rfl | exact Or.inr rfl) (pe_lst pa_nil))
      (pss_cons (ps_for PassesOwn.never rfl (k_pi_tup K (pe_ix (k_ix_tup K) (pv 0) pe_int (fun _ _ => rfl))) (pg_name (i := 3) scValues.nd rfl (by first | exact Or.inl rfl | exact Or.inr rfl))
      (pss_one (ps_expr (k_bm K PySem.F.plainAttrs_list PySem.F.slot_list_append PySem.F.type_list_append mt_append (pv 2) (pa_cons (C8.pe_c c_step_value hr (by decide) rfl (pa_cons (pv 3) (pa_cons (pv 1) (pa_cons (pv 2) pa_nil)))) pa_nil)))))
      (pss_one (ps_ret (pe_callTy (k_tupof K) (by rfl) T.b_tuple b_tuple (pa_cons (pv 2) pa_nil)))))), ?_⟩
  refine go_start wf mu ha ?_
  refine go_seq (go_own el_lst0.n fun p h0 => ?_)
  refine go_seq (go_forE r.steps encS (ei_tup (ev_ixTn 1 (ev_var (by rfl)) ev_int (by rfl)))
    (fun i Ms' As' => Ms' = (p, .lst (intsD (valuesOf (r.steps.take i) pt))) :: Ms ∧ ∃ X, As' = [some (dp (encR r)), some (dp (.tuple (intsD pt))), some (valA (.ref p)), X]) ⟨rfl, _, rfl⟩ ?_ ?_)
  · rintro Rb hb k x Ms' As' hx ⟨rfl, X, rfl⟩
    have hk := (List.getElem?_eq_some_iff.mp hx).1
    have hl : (valuesOf (r.steps.take k) pt).length = k := by rw [valuesOf_len, List.length_take]; omega
    refine go_app 0 (ev_var (by rfl)) (ev_call (ea_cons (ev_var (by rfl)) (ea_cons (ev_var (by rfl)) (ea_cons (Ev.own (ev_var (by rfl)) (List.mem_cons_self)) ea_nil)))
      (fun vs H Q h => ⟨_, _, x, pt, valuesOf (r.steps.take k) pt, List.Subset.refl _, fun u hu => by rw [hl]; exact ok.lt k x hx u hu, fun j hj => by rw [hp]; exact ok.inn k j (hj ▸ hx), sm k, h⟩)) (by rfl) h0 (by rw [ints_len, hl]; have := ok.len; omega) (go_inv ⟨?_, _, rfl⟩)
    rw [ints_snoc, take_snoc hx, valuesOf_snoc]
    rfl
  · rintro Ms' As' ⟨rfl, X, rfl⟩
    rw [List.take_length]
    exact go_ret (by exact q) (ev_tupleOf (Ev.own (ev_var (by rfl)) (List.mem_cons_self)))
abbrev sTold : Stmt := topS 16
abbrev nTold : List Str := ["row", "point", "found", "end"]
theorem scTold : FnScope nTold ["row", "point"] (defScope sTold) := ⟨rfl, rfl, rfl, by decide +kernel, rfl, by decide +kernel, by decide +kernel⟩
def spTold : Sp := fun vs H Q _ => ∃ (Ms : MS) (r : Row) (pt : List Int), r.Ok ∧ pt.length = r.inputs ∧ SmallPt r pt ∧ Pu Ms [dp (encR r), dp (.tuple (intsD pt))] (dp (.tuple (intsD (told r pt)))) vs H Q
theorem cal_told (T : Txt K mg) (c_values : C8.Cal P w K mg base 2 "values" spValues []) : C8.Cal P w K mg base 3 "told" spTold [] := by
  refine mk_cal (x := "told") (i := 16) (j := 5) T rfl scTold (fun _ _ _ _ _ _ us hl => match us, hl with | [_, _], _ => rfl) (fun vs H Q E h => ?_) (fun f cdv A outer s H vs Q E hr h => ?_)
  · obtain ⟨Ms, r, pt, _, _, _, R, _, _, h, _⟩ := h
    exact (paired_len h).trans rfl
  obtain ⟨Ms, r, pt, ok, hp, sm, R, wf, mu, ha, q⟩ := h
  refine ⟨_, (pss_cons (ps_set (i := 2) scTold.nd rfl (by first | exact Or.inl rfl | exact Or.inr rfl) (C8.pe_c c_values hr (by decide) rfl (pa_cons (pv 0) (pa_cons (pv 1) pa_nil))))
      (pss_one (ps_ret (pe_callTy (k_tupof K) (by rfl) T.b_tuple b_tuple (pa_cons (pe_lc (own := [("end", 3)]) rfl scTold.nd (k_pi_tup K (pe_ix (k_ix_tup K) (pv 0) pe_int (fun _ _ => rfl))) (blkOk_by (own := [("end", 3)]) (N := nTold) (sc := defScope sTold) (by decide +kernel)) (fun _ _ _ _ _ => (pg_name (i := 3) scTold.nd rfl (by first | exact Or.inl rfl | exact Or.inr rfl))) (fun _ _ _ _ _ => pts_nil) (fun _ _ _ _ _ => (pe_ix (k_ix_tup K) (pv 2) (pv 3) (fun _ _ => rfl)))) pa_nil))))), ?_⟩
  refine go_start wf mu ha ?_
  refine go_seq (go_asg (ev_call (ea_cons (ev_var (by rfl)) (ea_cons (ev_var (by rfl)) ea_nil)) (fun vs H Q h => ⟨_, r, pt, ok, hp, sm, h⟩)) ?_)
  have e : PyData.tuple (intsD (told r pt)) = .tuple (r.ends.map fun e => .int ((valuesOf r.steps pt).getD e 0)) := by
    unfold intsD told
    rw [List.map_map] <;> rfl
  rw [e] at q
  refine go_ret (by exact q) (ev_tupleOf (el_map r.ends (fun e : Nat => .int (e : Int)) _ (ei_tup (ev_ixTn 2 (ev_var (by rfl)) ev_int (by rfl))) (fun _ _ => tg_name) (fun x hx => ?_) (by have := ok.elen; omega) (by decide)).ev.ls)
  exact ev_ixTn x (ev_var (by rfl)) (ev_var (by rfl)) (ints_get (by rw [valuesOf_len]; exact ok.ends x hx))
abbrev sNeeded : Stmt := topS 18
abbrev nNeeded : List Str := ["row", "found", "number", "one", "is_so"]
theorem scNeeded : FnScope nNeeded ["row"] (defScope sNeeded) := ⟨rfl, rfl, rfl, by decide +kernel, rfl, by decide +kernel, by decide +kernel⟩
def spNeeded : Sp := fun vs H Q _ => ∃ (Ms : MS) (r : Row), r.Ok ∧ Pu Ms [dp (encR r)] (dp (.tuple (natsD (needed r)))) vs H Q
theorem bools_get {bs : List Bool} {i : Nat} (h : i < bs.length) : (bs.map PyData.bool)[i]? = some (.bool (bs.getD i false)) := by
  rw [List.getElem?_map, List.getElem?_eq_getElem h, List.getD_eq_getElem?_getD, List.getElem?_eq_getElem h]
  rfl
theorem range_get {n k x : Nat} (h : (List.range n)[k]? = some x) : k < n ∧ k = x := by
  have hk : k < n := by have := (List.getElem?_eq_some_iff.mp h).1; rwa [List.length_range] at this
  rw [List.getElem?_range hk] at h
  exact ⟨hk, Option.some.inj h⟩
theorem steps_get {r : Row} {i : Nat} (h : i < r.steps.length) : (r.steps.map encS)[i]? = some (encS (r.step i)) := by
  unfold Row.step
  rw [List.getElem?_map, List.getD_eq_getElem?_getD, List.getElem?_eq_getElem h]
  rfl
theorem cal_needed (T : Txt K mg) (c_steps_used : C8.Cal P w K mg base 1 "steps_used" spStepsUsed []) : C8.Cal P w K mg base 2 "needed" spNeeded [] := by
  refine mk_cal (x := "needed") (i := 18) (j := 7) T rfl scNeeded (fun _ _ _ _ _ _ us hl => match us, hl with | [_], _ => rfl) (fun vs H Q E h => ?_) (fun f cdv A outer s H vs Q E hr h => ?_)
  · obtain ⟨Ms, r, _, R, _, _, h, _⟩ := h
    exact (paired_len h).trans rfl
  obtain ⟨Ms, r, ok, R, wf, mu, ha, q⟩ := h
  refine ⟨_, (pss_cons (ps_setLc (i := 1) (own := [("number", 2)]) rfl scNeeded.nd rfl rfl (sw_true rfl rfl rfl (by decide +kernel)) (pi_range1 rfl T.b_range (pa_cons (pe_callB (k_len K) (by rfl) T.b_len b_len (pa_cons (pe_ix (k_ix_tup K) (pv 0) pe_int (fun _ _ => rfl)) pa_nil)) pa_nil)) (blkOk_by (own := [("number", 2)]) (N := nNeeded) (sc := defScope sNeeded) (by decide +kernel)) (fun _ _ _ _ _ => (pg_name (i := 2) scNeeded.nd rfl (by first | exact Or.inl rfl | exact Or.inr rfl))) (fun _ _ _ _ _ => pts_nil) (fun _ _ _ _ _ => (pe_cmpR (k_in K) (pv 2) (pe_ix (k_ix_tup K) (pv 0) pe_int (fun _ _ => rfl)) (by rfl))))
      (pss_cons (ps_for PassesOwn.never rfl (pi_range3 rfl T.b_range (pa_cons (pe_op op_sub (pe_callB (k_len K) (by rfl) T.b_len b_len (pa_cons (pe_ix (k_ix_tup K) (pv 0) pe_int (fun _ _ => rfl)) pa_nil)) pe_int) (pa_cons (pe_un un_neg pe_int) (pa_cons (pe_un un_neg pe_int) pa_nil)))) (pg_name (i := 2) scNeeded.nd rfl (by first | exact Or.inl rfl | exact Or.inr rfl))
      (pss_one (ps_if (pt_val (pe_ix (k_ix_list K) (pv 1) (pv 2) (fun _ _ => rfl))) (pss_one (ps_for PassesOwn.never rfl (k_pi_tup K (C8.pe_c c_steps_used hr (by decide) rfl (pa_cons (pe_ix (k_ix_tup K) (pe_ix (k_ix_tup K) (pv 0) pe_int (fun _ _ => rfl)) (pv 2) (fun _ _ => rfl)) pa_nil))) (pg_name (i := 3) scNeeded.nd rfl (by first | exact Or.inl rfl | exact Or.inr rfl))
      (pss_one (ps_asg pe_bl (pg_sub (pv 1) (pv 3) set_list))))) pss_nil)))
      (pss_one (ps_ret (pe_callTy (k_tupof K) (by rfl) T.b_tuple b_tuple (pa_cons (pe_lc (own := [("number", 2), ("is_so", 4)]) rfl scNeeded.nd (k_enum K (by rfl) T.b_enumerate (pa_cons (pv 1) pa_nil)) (blkOk_by (own := [("number", 2), ("is_so", 4)]) (N := nNeeded) (sc := defScope sNeeded) (by decide +kernel)) (fun _ _ _ _ _ => (k_pg_tup K (n := 2) rfl (pgs_cons (pg_name (i := 2) scNeeded.nd rfl (by first | exact Or.inl rfl | exact Or.inr rfl)) (pgs_cons (pg_name (i := 4) scNeeded.nd rfl (by first | exact Or.inl rfl | exact Or.inr rfl)) pgs_nil)))) (fun _ _ _ _ _ => (pts_one (pt_val (pv 4)))) (fun _ _ _ _ _ => (pv 2))) pa_nil)))))), ?_⟩
  refine go_start wf mu ha ?_
  have hn : (r.steps.map encS).length = r.steps.length := List.length_map _
  refine go_seq (go_own (el_map (List.range r.steps.length) (fun i : Nat => .int (i : Int)) (fun i => .bool (decide (i ∈ r.ends))) ((ei_r1 (ev_len (ev_ixTn 1 (ev_var (by rfl)) ev_int (by rfl)).sqT) (by rw [hn]; have := ok.len; omega)).to (by rw [hn, Int.toNat_natCast, rgD_zero]; rfl)) (fun _ _ => tg_name)
    (fun x hx => ev_inN (ev_var (by rfl)) (ev_ixTn 2 (ev_var (by rfl)) ev_int (by rfl)).sqT) (by rw [List.length_range]; have := ok.len; omega) (by decide)).n fun p h0 => ?_)
  refine go_seq (go_forE (List.range r.steps.length) (fun k : Nat => .int ((r.steps.length : Int) - 1 - (k : Int))) ((ei_down (ev_sub (ev_len (ev_ixTn 1 (ev_var (by rfl)) ev_int (by rfl)).sqT) ev_int) (ev_neg ev_int) (ev_neg ev_int) (by rw [hn]; have := ok.len; omega) (by omega)).to ?_)
    (fun k Ms' As' => Ms' = (p, .lst ((needAt r k).map .bool)) :: Ms ∧ ∃ X Y Z, As' = [some (dp (encR r)), some (valA (.ref p)), X, Y, Z]) ⟨?_, _, _, _, rfl⟩ ?_ ?_)
  · rw [hn, show ((r.steps.length : Int) - 1 - -1).toNat = r.steps.length by omega]
    rfl
  · have e : (needAt r 0).map PyData.bool = (List.range r.steps.length).map fun i => .bool (decide (i ∈ r.ends)) := by
      show ((List.range r.steps.length).map _).map _ = _
      rw [List.map_map] <;> rfl
    rw [e]
  · rintro Rb hb k x Ms' As' hx ⟨rfl, X, Y, Z, rfl⟩
    obtain ⟨hk, rfl⟩ := range_get hx
    have hl : (needAt r k).length = r.steps.length := needAt_len r k
    have e1 : ((r.steps.length : Int) - 1 - (k : Int)) = ((r.steps.length - 1 - k : Nat) : Int) := by omega
    rw [e1]
    have hi : r.steps.length - 1 - k < r.steps.length := by omega
    have hstep : (r.steps.map encS)[r.steps.length - 1 - k]? = some (encS (r.step (r.steps.length - 1 - k))) := steps_get hi
    refine go_if (et_B (ev_ixLn _ (Ev.own (ev_var (by rfl)) List.mem_cons_self) (ev_var (by rfl)) (bools_get (by rw [hl]; exact hi)))) (fun hb1 => ?_) (fun hb1 => go_next (go_inv ⟨?_, _, _, _, rfl⟩))
    · refine go_forE (r.uses (r.steps.length - 1 - k)) (fun u : Nat => .int (u : Int)) (ei_tup (ev_call (ea_cons (ev_ixTn _ (ev_ixTn 1 (ev_var (by rfl)) ev_int (by rfl)) (ev_var (by rfl)) hstep) ea_nil) (fun vs H Q h => ⟨_, _, h⟩)))
        (fun j Ms' As' => Ms' = (p, .lst ((markAll (needAt r k) ((r.uses (r.steps.length - 1 - k)).take j)).map .bool)) :: Ms ∧ ∃ X Y Z, As' = [some (dp (encR r)), some (valA (.ref p)), X, Y, Z]) ⟨rfl, _, _, _, rfl⟩ ?_ ?_
      · rintro Rb' hb' j u Ms' As' hu ⟨rfl, X, Y, Z, rfl⟩
        have hu' : u < r.steps.length := Nat.lt_trans (ok.use (List.mem_of_getElem? hu)) hi
        refine go_setL 0 ev_bl (ev_var (by rfl)) (ev_var (by rfl)) (by rfl) h0 (by rw [List.length_map, markAll_len, hl]; exact hu') (go_inv ⟨?_, _, _, _, rfl⟩)
        rw [take_snoc hu, markAll_snoc, List.map_set]
        rfl
      · rintro Ms' As' ⟨rfl, X, Y, Z, rfl⟩
        refine go_inv ⟨?_, _, _, _, rfl⟩
        rw [List.take_length, needAt_succ, needTurn, if_pos hb1]
    · rw [needAt_succ, needTurn, if_neg (by rw [hb1]; exact Bool.false_ne_true)]
  · rintro Ms' As' ⟨rfl, X, Y, Z, rfl⟩
    rw [List.length_range]
    refine go_frz (i := 1) (by rfl) h0 ?_
    have e2 : PyData.tuple (natsD (needed r)) = .tuple (((needs r).zipIdx.filter fun p => p.1).map fun p => .int (p.2 : Int)) := by
      rw [needed_eq]
      unfold natsD
      rw [List.map_map] <;> rfl
    rw [e2] at q
    refine go_ret (by exact q) (ev_tupleOf (el_lc (needs r).zipIdx (fun p => .tuple [.int (p.2 : Int), .bool p.1]) (fun p => p.1) (fun p => .int (p.2 : Int)) ((ei_enum (ev_var (by rfl))).to ?_) (fun _ _ => tg_pair) (fun x hx => et_B (ev_var (by rfl))) (fun x hx _ => ev_var (by rfl)) (by rw [List.length_zipIdx, needs, needAt_len]; have := ok.len; omega) (by decide)).ev.ls)
    unfold enD needs
    rw [List.zipIdx_map, List.map_map] <;> rfl
end
end Rb
end
section
set_option Elab.async false
set_option linter.all false
set_option autoImplicit false
set_option maxRecDepth 100000
set_option maxHeartbeats 4000000
namespace Rb
open PySem PySem.Spec PyProof.Rows L2
/-! ### numbers as data -/
def nI (l : List Nat) : List Int := l.map fun n : Nat => (n : Int)
theorem natsD_nI (l : List Nat) : natsD l = intsD (nI l) := by
  unfold natsD intsD nI
  rw [List.map_map] <;> rfl
theorem nI_len (l : List Nat) : (nI l).length = l.length := List.length_map _
theorem natsD_len (l : List Nat) : (natsD l).length = l.length := List.length_map _
theorem mem_nI {l : List Nat} {k : Int} : k ∈ nI l ↔ ∃ n ∈ l, (n : Int) = k := List.mem_map
theorem nI_rising {l : List Nat} (h : l.Pairwise (· < ·)) : (nI l).Pairwise (· < ·) := List.pairwise_map.mpr (h.imp fun h => by omega)
theorem nI_nodup {l : List Nat} (h : l.Nodup) : (nI l).Nodup := List.pairwise_map.mpr (h.imp fun h => by omega)
theorem natsD_get {l : List Nat} {i n : Nat} (h : l[i]? = some n) : (natsD l)[i]? = some (.int (n : Int)) := by
  unfold natsD
  rw [List.getElem?_map, h]
  rfl
theorem natsD_app (a b : List Nat) : natsD (a ++ b) = natsD a ++ natsD b := by
  unfold natsD
  rw [List.map_append]
theorem getK_of_mem {κ β : Type} [DecidableEq κ] {k : κ} {v : β} : ∀ {kvs : List (κ × β)}, (kvs.map Prod.fst).Nodup → (k, v) ∈ kvs → getK kvs k = some v
  | [], _, h => by simp at h
  | p :: kvs, hn, h => by
    rw [List.map_cons, List.nodup_cons] at hn
    unfold getK
    rw [List.find?_cons]
    by_cases e : p.1 = k
    · rcases List.mem_cons.mp h with rfl | h
      · simp
      · exact absurd (List.mem_map.mpr ⟨_, h, rfl⟩) (by rw [← e]; exact hn.1)
    · rcases List.mem_cons.mp h with rfl | h
      · exact absurd rfl e
      · simp only [decide_eq_false e]
        exact getK_of_mem hn.2 h
theorem getK_map {β : Type} (f : Nat → β) : ∀ {l : List Nat} {x : Nat}, x ∈ l → getK (l.map fun x : Nat => ((x : Int), f x)) (x : Int) = some (f x)
  | [], _, h => by simp at h
  | y :: l, x, h => by
    unfold getK
    rw [List.map_cons, List.find?_cons]
    by_cases e : y = x
    · subst e; simp
    · have e' : ¬ ((y : Int) = (x : Int)) := by omega
      simp only [decide_eq_false e']
      rcases List.mem_cons.mp h with h | h
      · exact absurd h.symm e
      · exact getK_map f h
section
variable {P : Program} {w : World} {K : PySem.W.Frag} {mg : Str → Option Value} {base : Heap}
section
variable {c : Kx} {Ms : MS} {As : AS} {te : TE}
theorem el_setN {l : List Nat} (h : Ev c Ms As te (dp (.tuple (natsD l)))) (hl : l.length < 63) : EvL c Ms As (tSortedSet K te) (natsD (setN l)) := by
  rw [natsD_nI] at h ⊢
  refine el_sortedSet h (by rw [nI_len]; exact hl) (nI_rising (setN_rising l)) fun k => ?_
  rw [mem_nI, mem_nI]
  constructor
  · rintro ⟨n, h1, h2⟩; exact ⟨n, mem_setN.mp h1, h2⟩
  · rintro ⟨n, h1, h2⟩; exact ⟨n, mem_setN.mpr h1, h2⟩
theorem ev_step {r : Row} {x i : Nat} {te2 : TE} (h : As[i]? = some (some (dp (encR r)))) (h2 : Ev c Ms As te2 (dp (.int (x : Int)))) (hx : x < r.steps.length) : Ev c Ms As (tOp (rIxT K) (tOp (rIxT K) (tVar i) (tC (.int 1))) te2) (dp (encS (r.step x))) :=
  ev_ixTn x (ev_ixTn 1 (ev_var h) ev_int (by rfl)) h2 (steps_get hx)
theorem ev_uses {r : Row} {x i : Nat} {te2 : TE} {E : XK} (h : As[i]? = some (some (dp (encR r)))) (h2 : Ev c Ms As te2 (dp (.int (x : Int)))) (hx : x < r.steps.length) :
    Ev c Ms As (tCall spStepsUsed [] E (tCons (tOp (rIxT K) (tOp (rIxT K) (tVar i) (tC (.int 1))) te2) tNil)) (dp (.tuple (natsD (r.uses x)))) :=
  ev_call (ea_cons (ev_step h h2 hx) ea_nil) (fun vs H Q h => ⟨_, _, h⟩)
theorem el_kids {r : Row} {x i : Nat} {te2 : TE} {E : XK} (h : As[i]? = some (some (dp (encR r)))) (h2 : Ev c Ms As te2 (dp (.int (x : Int)))) (hx : x < r.steps.length) :
    EvL c Ms As (tSortedSet K (tCall spStepsUsed [] E (tCons (tOp (rIxT K) (tOp (rIxT K) (tVar i) (tC (.int 1))) te2) tNil))) (natsD (kids r x)) :=
  el_setN (ev_uses h h2 hx) (by have := uses_len r x; omega)
theorem ev_needed {r : Row} {i : Nat} {E : XK} (ok : r.Ok) (h : As[i]? = some (some (dp (encR r)))) : Ev c Ms As (tCall spNeeded [] E (tCons (tVar i) tNil)) (dp (.tuple (natsD (needed r)))) :=
  ev_call (ea_cons (ev_var h) ea_nil) (fun vs H Q h => ⟨_, r, ok, h⟩)
end
/-! ### users_of -/
def lsOf (qs : List (Nat × Addr)) (L : Nat → List Nat) : MS := qs.reverse.map fun p => (p.2, Mc.lst (natsD (L p.1)))
def esOf (qs : List (Nat × Addr)) : List (L2.Key × V) := qs.map fun p => (kI p.1, V.ref p.2)
theorem lsOf_len (qs : List (Nat × Addr)) (L : Nat → List Nat) : (lsOf qs L).length = qs.length := by simp [lsOf]
theorem putK_new {κ : Type} [DecidableEq κ] {es : List (κ × V)} {k : κ} {v : V} (h : k ∉ es.map Prod.fst) : L2.putK es k v = es ++ [(k, v)] := by
  unfold L2.putK
  rw [if_neg]
  intro z
  obtain ⟨q, hq, e⟩ := List.any_eq_true.mp z
  exact h (List.mem_map.mpr ⟨q, hq, of_decide_eq_true e⟩)
theorem es_get : ∀ {qs : List (Nat × Addr)} {x : Nat} {q : Addr}, (qs.map Prod.fst).Nodup → (x, q) ∈ qs → valV (esOf qs) (kI x) = some (.ref q)
  | [], _, _, _, h => by simp at h
  | p :: qs, x, q, hn, h => by
    rw [List.map_cons, List.nodup_cons] at hn
    by_cases e : p.1 = x
    · rcases List.mem_cons.mp h with rfl | h
      · exact valV_pos rfl
      · exact absurd (List.mem_map.mpr ⟨_, h, rfl⟩) (by rw [← e]; exact hn.1)
    · rcases List.mem_cons.mp h with rfl | h
      · exact absurd rfl e
      · have e' : kI (p.1 : Int) ≠ kI (x : Int) := fun z => e (by have := Sum.inl.inj z; omega)
        show valV ((kI p.1, V.ref p.2) :: esOf qs) (kI x) = _
        rw [valV_neg e']
        exact es_get hn.2 h
theorem ls_set {qs : List (Nat × Addr)} {x : Nat} {q : Addr} {L : Nat → List Nat} {v : List Nat} {k : Nat} (hn : (qs.map Prod.fst).Nodup) (hk : qs.reverse[k]? = some (x, q)) :
    (lsOf qs L).set k (q, Mc.lst (natsD v)) = lsOf qs fun y => if y = x then v else L y := by
  unfold lsOf
  refine List.ext_getElem? fun j => ?_
  rw [List.getElem?_set, List.getElem?_map, List.getElem?_map, List.length_map]
  by_cases e : k = j
  · subst e
    rw [if_pos rfl, if_pos (List.getElem?_eq_some_iff.mp hk).1, hk]
    simp
  · rw [if_neg e]
    cases hj : qs.reverse[j]? with
    | none => rfl
    | some p =>
      have ne : p.1 ≠ x := fun z => by
        have hn' : (qs.reverse.map Prod.fst).Nodup := by
          rw [List.map_reverse]
          exact List.pairwise_reverse.mpr (hn.imp fun h z => h z.symm)
        have h1 : (qs.reverse.map Prod.fst)[k]? = some x := by rw [List.getElem?_map, hk]; rfl
        have h2 : (qs.reverse.map Prod.fst)[j]? = some x := by rw [List.getElem?_map, hj]; exact congrArg some z
        obtain ⟨l1, e1⟩ := List.getElem?_eq_some_iff.mp h1
        obtain ⟨l2, e2⟩ := List.getElem?_eq_some_iff.mp h2
        exact e ((List.getElem_inj hn').mp (e1.trans e2.symm))
      simp [ne]
/-- the users of x among the first i needed steps, and among n's first j kids -/
def usersUp (r : Row) (l : List Nat) (x : Nat) : List Nat := l.filter fun y => decide (x ∈ r.uses y)
def usersD (r : Row) : List (Int × PyData) := (needed r).map fun x : Nat => ((x : Int), PyData.list (natsD (users r x)))
abbrev sUsersOf : Stmt := topS 20
abbrev nUsersOf : List Str := ["row", "found", "number", "one"]
theorem scUsersOf : FnScope nUsersOf ["row"] (defScope sUsersOf) := ⟨rfl, rfl, rfl, by decide +kernel, rfl, by decide +kernel, by decide +kernel⟩
def spUsersOf : Sp := fun vs H Q _ => ∃ (Ms : MS) (r : Row), r.Ok ∧ Pu Ms [dp (encR r)] (dicK (usersD r)) vs H Q
theorem en_dKr {c : Kx} {Ms : MS} {As : AS} : EvN c Ms As tDNewK (.dKr []) := fun σ H R s Q q p hp => q p _ R (.lay s.wf hp) hp (s.wf.none hp) upd_same
theorem cal_users_of (T : Txt K mg) (c_steps_used : C8.Cal P w K mg base 1 "steps_used" spStepsUsed []) (c_needed : C8.Cal P w K mg base 2 "needed" spNeeded []) : C8.Cal P w K mg base 3 "users_of" spUsersOf [] := by
  refine mk_cal (x := "users_of") (i := 20) (j := 8) T rfl scUsersOf (fun _ _ _ _ _ _ us hl => match us, hl with | [_], _ => rfl) (fun vs H Q E h => ?_) (fun f cdv A outer s H vs Q E hr h => ?_)
  · obtain ⟨Ms, r, _, R, _, _, h, _⟩ := h
    exact (paired_len h).trans rfl
  obtain ⟨Ms, r, ok, R, wf, mu, ha, q⟩ := h
  refine ⟨_, (pss_cons (ps_set (i := 1) scUsersOf.nd rfl (by first | exact Or.inl rfl | exact Or.inr rfl) pe_dnewK)
      (pss_cons (ps_for PassesOwn.never rfl (k_pi_tup K (C8.pe_c c_needed hr (by decide) rfl (pa_cons (pv 0) pa_nil))) (pg_name (i := 2) scUsersOf.nd rfl (by first | exact Or.inl rfl | exact Or.inr rfl))
      (pss_one (ps_dput (hu_of hr) (pv 1) (pv 2) (pe_lst pa_nil) rfl)))
      (pss_cons (ps_for PassesOwn.never rfl (k_pi_tup K (C8.pe_c c_needed hr (by decide) rfl (pa_cons (pv 0) pa_nil))) (pg_name (i := 2) scUsersOf.nd rfl (by first | exact Or.inl rfl | exact Or.inr rfl))
      (pss_one (ps_for PassesOwn.never rfl (k_pi_list K (pe_sortedSet K rfl (by rfl) T.b_sorted (by rfl) T.b_set (C8.pe_c c_steps_used hr (by decide) rfl (pa_cons (pe_ix (k_ix_tup K) (pe_ix (k_ix_tup K) (pv 0) pe_int (fun _ _ => rfl)) (pv 2) (fun _ _ => rfl)) pa_nil)))) (pg_name (i := 3) scUsersOf.nd rfl (by first | exact Or.inl rfl | exact Or.inr rfl))
      (pss_one (ps_expr (k_bm K PySem.F.plainAttrs_list PySem.F.slot_list_append PySem.F.type_list_append mt_append (pe_dget (hu_of hr) (pv 1) (pv 3) (fun _ _ => rfl)) (pa_cons (pv 2) pa_nil)))))))
      (pss_one (ps_ret (pv 1)))))), ?_⟩
  refine go_start wf mu ha ?_
  have nl : (needed r).length ≤ 1000 := Nat.le_trans (needed_len r) ok.len
  refine go_seq (go_own en_dKr fun p h0 => ?_)
  refine go_seq (go_forE (needed r) (fun n : Nat => .int (n : Int)) (ei_tup (ev_needed ok (by rfl)))
    (fun i Ms' As' => ∃ qs : List (Nat × Addr), qs.map Prod.fst = (needed r).take i ∧ (∀ e ∈ qs, H e.2 = none) ∧ Ms' = lsOf qs (fun _ => []) ++ (p, .dKr (esOf qs)) :: Ms ∧ ∃ X Y, As' = [some (dp (encR r)), some (valA (.ref p)), X, Y]) ⟨[], rfl, fun _ h => absurd h (by simp), rfl, _, _, rfl⟩ ?_ ?_)
  · rintro Rb hb i x Ms' As' hx ⟨qs, e1, e2, rfl, X, Y, rfl⟩
    have hk : (lsOf qs (fun _ => []) ++ (p, Mc.dKr (esOf qs)) :: Ms)[qs.length]? = some (p, .dKr (esOf qs)) := by
      rw [List.getElem?_append_right (by rw [lsOf_len]; exact Nat.le_refl _), lsOf_len, Nat.sub_self]
      rfl
    have ql : qs.length ≤ 1000 := by
      have := congrArg List.length e1
      rw [List.length_map, List.length_take] at this
      omega
    refine go_dputN qs.length el_lst0.n (fun q => ev_var (by rfl)) (fun q => ev_var (by rfl)) hk h0 (by unfold esOf; rw [List.length_map]; omega) fun q hq _ => ?_
    refine go_inv ⟨qs ++ [(x, q)], ?_, ?_, ?_, _, _, rfl⟩
    · rw [List.map_append, e1, take_snoc hx]
      rfl
    · intro e he
      rcases List.mem_append.mp he with he | he
      · exact e2 e he
      · rcases List.mem_singleton.mp he with rfl
        exact hq
    · have hnew : kI (x : Int) ∉ (esOf qs).map Prod.fst := fun z => by
        unfold esOf at z
        rw [List.map_map] at z
        obtain ⟨e, he, ez⟩ := List.mem_map.mp z
        have ex : e.1 = x := by have := Sum.inl.inj ez; omega
        have hm : x ∈ (needed r).take i := by rw [← e1, ← ex]; exact List.mem_map_of_mem he
        have hn := needed_nodup r
        obtain ⟨j, hj, ej⟩ := List.getElem_of_mem hm
        rw [List.length_take] at hj
        rw [List.getElem_take] at ej
        have h2 := List.getElem?_eq_some_iff.mp hx
        have := (List.getElem_inj hn).mp (ej.trans h2.2.symm)
        omega
      have es : L2.putK (esOf qs) (kI (x : Int)) (V.ref q) = esOf (qs ++ [(x, q)]) := by
        rw [putK_new hnew]
        unfold esOf
        rw [List.map_append]
        rfl
      show (q, Mc.lst []) :: (lsOf qs (fun _ => []) ++ (p, Mc.dKr (esOf qs)) :: Ms).set qs.length (p, .dKr (L2.putK (esOf qs) (kI (x : Int)) (V.ref q))) = _
      rw [es, List.set_append_right _ _ (by rw [lsOf_len]; exact Nat.le_refl _), lsOf_len, Nat.sub_self]
      unfold lsOf
      rw [List.reverse_append, List.reverse_singleton, List.singleton_append, List.map_cons]
      rfl
  · rintro Ms' As' ⟨qs, e1, e2, rfl, X, Y, rfl⟩
    rw [List.take_length] at e1
    have hn : (qs.map Prod.fst).Nodup := by rw [e1]; exact needed_nodup r
    refine go_seq (go_forE (needed r) (fun n : Nat => .int (n : Int)) (ei_tup (ev_needed ok (by rfl)))
      (fun i Ms' As' => Ms' = lsOf qs (usersUp r ((needed r).take i)) ++ (p, .dKr (esOf qs)) :: Ms ∧ ∃ X Y, As' = [some (dp (encR r)), some (valA (.ref p)), X, Y]) ⟨by congr 1, _, _, rfl⟩ ?_ ?_)
    · rintro Rb hb i x Ms' As' hx ⟨rfl, X, Y, rfl⟩
      have hxn : x ∈ needed r := List.mem_of_getElem? hx
      refine go_forE (kids r x) (fun n : Nat => .int (n : Int)) (ei_list (el_kids (by rfl) (ev_var (by rfl)) (nd_lt hxn)).ev)
        (fun j Ms' As' => Ms' = lsOf qs (fun y => usersUp r ((needed r).take i) y ++ if y ∈ (kids r x).take j then [x] else []) ++ (p, .dKr (esOf qs)) :: Ms ∧ ∃ Y, As' = [some (dp (encR r)), some (valA (.ref p)), some (dp (.int (x : Int))), Y]) ⟨by congr 2; funext y; simp, _, rfl⟩ ?_ ?_
      · rintro Rb' hb' j y Ms' As' hy ⟨rfl, Y, rfl⟩
        have hyk : y ∈ kids r x := List.mem_of_getElem? hy
        have hyn : y ∈ needed r := nd_use ok hxn (mem_kids.mp hyk)
        obtain ⟨e, he, ey⟩ : ∃ e ∈ qs, e.1 = y := by
          have : y ∈ qs.map Prod.fst := by rw [e1]; exact hyn
          exact List.mem_map.mp this
        obtain ⟨y', qa⟩ := e
        cases ey
        obtain ⟨k, hk⟩ := List.mem_iff_getElem?.mp (List.mem_reverse.mpr he)
        have hkl : k < qs.length := by have := (List.getElem?_eq_some_iff.mp hk).1; rwa [List.length_reverse] at this
        have hnot : y' ∉ (kids r x).take j := fun z => by
          obtain ⟨j', hj', ej'⟩ := List.getElem_of_mem z
          rw [List.length_take] at hj'
          rw [List.getElem_take] at ej'
          have h2 := List.getElem?_eq_some_iff.mp hy
          have := (List.getElem_inj (setN_nodup (r.uses x))).mp (ej'.trans h2.2.symm)
          omega
        have hk2 : (lsOf qs (fun y => usersUp r ((needed r).take i) y ++ if y ∈ (kids r x).take j then [x] else []) ++ (p, Mc.dKr (esOf qs)) :: Ms)[k]? = some (qa, .lst (natsD (usersUp r ((needed r).take i) y'))) := by
          rw [List.getElem?_append_left (by rw [lsOf_len]; exact hkl)]
          unfold lsOf
          rw [List.getElem?_map, hk]
          simp [hnot]
        refine go_app k (ev_dgetKr (ev_var (by rfl)) (ev_var (by rfl)) (es := esOf qs) (by simp) (es_get hn he)) (ev_var (by rfl)) hk2 (e2 _ he) (by rw [natsD_len]; have := List.length_filter_le (fun z => decide (y' ∈ r.uses z)) ((needed r).take i); unfold usersUp; rw [List.length_take] at this; omega) (go_inv ⟨?_, _, rfl⟩)
        rw [List.set_append_left _ _ (by rw [lsOf_len]; exact hkl)]
        have ee : natsD (usersUp r ((needed r).take i) y') ++ [PyData.int (x : Int)] = natsD (usersUp r ((needed r).take i) y' ++ [x]) := by rw [natsD_app]; rfl
        rw [ee, ls_set hn hk]
        congr 2
        funext z
        rw [take_snoc hy]
        by_cases ez : z = y'
        · subst ez; simp
        · simp [ez]
      · rintro Ms' As' ⟨rfl, Y, rfl⟩
        rw [List.take_length]
        refine go_inv ⟨?_, _, _, rfl⟩
        congr 2
        funext y
        rw [take_snoc hx]
        unfold usersUp
        rw [List.filter_append]
        congr 1
        by_cases e : y ∈ r.uses x
        · rw [if_pos (mem_kids.mpr e)]; simp [e]
        · rw [if_neg (fun z => e (mem_kids.mp z))]; simp [e]
    · rintro Ms' As' ⟨rfl, X, Y, rfl⟩
      rw [List.take_length]
      refine go_frzDict (kvs := usersD r) (fun e he => ?_) (fun R hR => ?_) ?_
      · obtain ⟨z, hz, rfl⟩ := List.mem_map.mp he
        exact e2 z (List.mem_reverse.mp hz)
      · have key : ∀ (l : List (Nat × Addr)), (∀ e ∈ l, e ∈ qs) → RepK R (esOf l) (l.map fun e => ((e.1 : Int), .list (natsD (users r e.1)))) := by
          intro l
          induction l with
          | nil => intro _; exact .nil
          | cons a l ih =>
            intro hl
            refine .cons ⟨rfl, ?_⟩ (ih fun e he => hl e (List.mem_cons_of_mem _ he))
            exact hR (a.2, .lst (natsD (users r a.1))) (List.mem_map.mpr ⟨a, List.mem_reverse.mpr (hl a List.mem_cons_self), rfl⟩)
        have h := key qs fun _ h => h
        have eu : usersD r = qs.map fun e => ((e.1 : Int), .list (natsD (users r e.1))) := by
          unfold usersD
          rw [← e1, List.map_map]
          rfl
        rw [eu]
        exact h
      · exact go_frz (i := 1) (by rfl) h0 (go_ret (by exact q) (ev_var (by rfl)))
end
end Rb
end
section
set_option Elab.async false
set_option linter.all false
set_option autoImplicit false
set_option maxRecDepth 100000
set_option maxHeartbeats 4000000
namespace Rb
open PySem PySem.Spec PyProof.Rows L2
theorem shaped_tup (l : List Int) : SeqAt.shaped (.tuple (intsD l)) = true := by
  unfold SeqAt.shaped
  rw [Bool.and_eq_true]
  refine ⟨?_, by simp only [PyData.depth, depth_ints]; decide⟩
  have key : ∀ l : List Int, PyData.canLayAll0 (intsD l) = true := by
    intro l
    induction l with
    | nil => rfl
    | cons n l ih => show PyData.canLayAll0 (.int n :: intsD l) = true; simp only [PyData.canLayAll0, PyData.canLay0, ih]; rfl
  simp only [PyData.canLay0]
  exact key l
theorem shaped_lst (l : List Int) : SeqAt.shaped (.list (intsD l)) = true := by
  have h := shaped_tup l
  unfold SeqAt.shaped at h ⊢
  simp only [PyData.canLay0, PyData.depth] at h ⊢
  exact h
theorem eqv_tup (a b : List Int) : PyData.eqv (.tuple (intsD a)) (.tuple (intsD b)) = decide (a = b) := by
  have h := PySem.W.Datum.eqv (α := PySem.W.Tup Int) ⟨a⟩ ⟨b⟩
  refine (show PyData.eqv (.tuple (intsD a)) (.tuple (intsD b)) = _ from h).trans (decide_eq_decide.mpr ⟨fun e => by cases e; rfl, fun e => by rw [e]⟩)
theorem eqv_lst (a b : List Int) : PyData.eqv (.list (intsD a)) (.list (intsD b)) = decide (a = b) := PySem.W.Datum.eqv (α := List Int) a b
theorem nI_inj : ∀ {a b : List Nat}, nI a = nI b → a = b
  | [], [], _ => rfl
  | [], _ :: _, h => by cases h
  | _ :: _, [], h => by cases h
  | x :: a, y :: b, h => by
    have h' : (x : Int) :: nI a = (y : Int) :: nI b := h
    injection h' with h1 h2
    rw [nI_inj h2, show x = y by omega]
section
variable {P : Program} {w : World} {K : PySem.W.Frag} {mg : Str → Option Value} {base : Heap}
/-! ### is_integer -/
abbrev sIsInteger : Stmt := topS 11
abbrev nIsInteger : List Str := ["value", "least", "most"]
theorem scIsInteger : FnScope nIsInteger ["value", "least", "most"] (defScope sIsInteger) := ⟨rfl, rfl, rfl, by decide +kernel, rfl, by decide +kernel, by decide +kernel⟩
def spIsInteger : Sp := fun vs H Q _ => ∃ (Ms : MS) (v a b : Int), Pu Ms [dp (.int v), dp (.int a), dp (.int b)] (dp (.bool (decide (a ≤ v) && decide (v ≤ b)))) vs H Q
theorem cal_is_integer (T : Txt K mg) : C8.Cal P w K mg base 1 "is_integer" spIsInteger [] := by
  refine mk_cal (x := "is_integer") (i := 11) (j := 0) T rfl scIsInteger (fun _ _ _ _ _ _ us hl => match us, hl with | [_, _, _], _ => rfl) (fun vs H Q E h => ?_) (fun f cdv A outer s H vs Q E hr h => ?_)
  · obtain ⟨Ms, v, a, b, R, _, _, h, _⟩ := h
    exact (paired_len h).trans rfl
  obtain ⟨Ms, v, a, b, R, wf, mu, ha, q⟩ := h
  refine ⟨_, (pss_one (ps_ret (pe_and (pe_callB (k_isi K) (by rfl) T.b_isinstance b_isinstance (pa_cons (pv 0) (pa_cons (pe_bltn (v := .ty "int") (by rfl) T.b_int b_int rfl) pa_nil))) (pe_and (pe_not (pe_callB (k_isi K) (by rfl) T.b_isinstance b_isinstance (pa_cons (pv 0) (pa_cons (pe_bltn (v := .ty "bool") (by rfl) T.b_bool b_bool rfl) pa_nil)))) (pe_one (pe_chain op_le op_le (pv 1) (pv 0) (pv 2))))))), ?_⟩
  refine go_start wf mu ha ?_
  refine go_ret (by exact q) ((ev_andV (ev_isiI (b := true) (ev_var (by rfl)) ev_gl (by first | exact kit_ty (by decide +kernel) | decide +kernel)) (fun _ => ev_andV (ev_notV (ev_isiI (b := false) (ev_var (by rfl)) ev_gl (by first | exact kit_ty (by decide +kernel) | decide +kernel))) (fun _ => ev_chainLe (ev_var (by rfl)) (ev_var (by rfl)) (ev_var (by rfl))))).to ?_)
  simp
/-! ### held_of, held_rows -/
abbrev sHeldOf : Stmt := topS 23
abbrev nHeldOf : List Str := ["row", "users", "reckoned", "found", "number", "user"]
theorem scHeldOf : FnScope nHeldOf ["row", "users", "reckoned"] (defScope sHeldOf) := ⟨rfl, rfl, rfl, by decide +kernel, rfl, by decide +kernel, by decide +kernel⟩
def spHeldOf : Sp := fun vs H Q _ => ∃ (Ms : MS) (r : Row) (l : List Nat), r.Ok ∧ l.length ≤ 1000 ∧ (∀ x ∈ l, x ∈ needed r) ∧ Pu Ms [dp (encR r), dicK (usersD r), dp (.tuple (natsD l))] (dp (.list (natsD (heldOf r l)))) vs H Q
section
variable {c : Kx} {Ms : MS} {As : AS} {te : TE}
theorem ev_users {r : Row} {x i : Nat} (h : As[i]? = some (some (dicK (usersD r)))) (h2 : Ev c Ms As te (dp (.int (x : Int)))) (hx : x ∈ needed r) : Ev c Ms As (tDGet (tVar i) te) (dp (.list (natsD (users r x)))) :=
  ev_dgetK (ev_var h).dk h2 (getK_map (fun x => PyData.list (natsD (users r x))) hx)
theorem ev_ends {r : Row} {i : Nat} (h : As[i]? = some (some (dp (encR r)))) : Ev c Ms As (tOp (rIxT K) (tVar i) (tC (.int 2))) (dp (.tuple (natsD r.ends))) := ev_ixTn 2 (ev_var h) ev_int (by rfl)
end
theorem users_len {r : Row} (ok : r.Ok) (x : Nat) : (users r x).length ≤ 1000 := by
  have h1 := List.length_filter_le (fun y => decide (x ∈ r.uses y)) (needed r)
  have h2 := needed_len r
  have h3 := ok.len
  unfold users
  omega
theorem all_map {α : Type} (l : List α) (f : α → Bool) : (l.map f).all id = l.all f := by rw [List.all_map] <;> rfl
theorem any_map' {α : Type} (l : List α) (f : α → Bool) : (l.map f).any id = l.any f := by rw [List.any_map] <;> rfl
theorem cal_held_of (T : Txt K mg) : C8.Cal P w K mg base 1 "held_of" spHeldOf [] := by
  refine mk_cal (x := "held_of") (i := 23) (j := 11) T rfl scHeldOf (fun _ _ _ _ _ _ us hl => match us, hl with | [_, _, _], _ => rfl) (fun vs H Q E h => ?_) (fun f cdv A outer s H vs Q E hr h => ?_)
  · obtain ⟨Ms, r, l, _, _, _, R, _, _, h, _⟩ := h
    exact (paired_len h).trans rfl
  obtain ⟨Ms, r, l, ok, hl, hs, R, wf, mu, ha, q⟩ := h
  refine ⟨_, (pss_cons (ps_set (i := 3) scHeldOf.nd rfl (by first | exact Or.inl rfl | exact Or.inr rfl) (pe_lst pa_nil))
      (pss_cons (ps_for PassesOwn.never rfl (k_pi_tup K (pv 2)) (pg_name (i := 4) scHeldOf.nd rfl (by first | exact Or.inl rfl | exact Or.inr rfl))
      (pss_one (ps_if (PW.pt (pw_or (pt_cmpR (k_in K) (pv 4) (pe_ix (k_ix_tup K) (pv 0) pe_int (fun _ _ => rfl)) (by rfl)) (pw_or1 (pt_not (pt_val (pe_callB (k_all K rfl) (by rfl) T.b_all b_all (pa_cons (pe_lc (own := [("user", 5)]) rfl scHeldOf.nd (k_pi_list K (pe_dget (hu_of hr) (pv 1) (pv 4) (fun _ _ => rfl))) (blkOk_by (own := [("user", 5)]) (N := nHeldOf) (sc := defScope sHeldOf) (by decide +kernel)) (fun _ _ _ _ _ => (pg_name (i := 5) scHeldOf.nd rfl (by first | exact Or.inl rfl | exact Or.inr rfl))) (fun _ _ _ _ _ => pts_nil) (fun _ _ _ _ _ => (pe_cmpR (k_in K) (pv 5) (pv 2) (by rfl)))) pa_nil))))))) (pss_one (ps_expr (k_bm K PySem.F.plainAttrs_list PySem.F.slot_list_append PySem.F.type_list_append mt_append (pv 3) (pa_cons (pv 4) pa_nil)))) pss_nil)))
      (pss_one (ps_ret (pv 3))))), ?_⟩
  refine go_start wf mu ha ?_
  refine go_seq (go_own el_lst0.n fun p h0 => ?_)
  refine go_seq (go_forE l (fun n : Nat => .int (n : Int)) (ei_tup (ev_var (by rfl)))
    (fun i Ms' As' => Ms' = (p, .lst (natsD ((l.take i).filter fun x => decide (x ∈ r.ends) || !((users r x).all fun y => decide (y ∈ l))))) :: Ms ∧ ∃ X Y, As' = [some (dp (encR r)), some (dicK (usersD r)), some (dp (.tuple (natsD l))), some (valA (.ref p)), X, Y]) ⟨rfl, _, _, rfl⟩ ?_ ?_)
  · rintro Rb hb i x Ms' As' hx ⟨rfl, X, Y, rfl⟩
    have hxl : x ∈ l := List.mem_of_getElem? hx
    have hfl := List.length_filter_le (fun x => decide (x ∈ r.ends) || !((users r x).all fun y => decide (y ∈ l))) (l.take i)
    have htl : (l.take i).length ≤ 1000 := by rw [List.length_take]; omega
    have e := filter_take_succ hx (fun x => decide (x ∈ r.ends) || !((users r x).all fun y => decide (y ∈ l)))
    refine go_if (et_or (et_B (ev_inN (ev_var (by rfl)) (ev_ends (by rfl)).sqT)) (fun _ => et_not (et_test (ev_all (bs := (users r x).map fun y => decide (y ∈ l)) ((el_map (users r x) (fun n : Nat => .int (n : Int)) (fun y => .bool (decide (y ∈ l))) (ei_list (ev_users (by rfl) (ev_var (by rfl)) (hs x hxl))) (fun _ _ => tg_name)
      (fun y hy => ev_inN (ev_var (by rfl)) (ev_var (by rfl)).sqT) (by have := users_len ok x; omega) (by decide)).to (by rw [List.map_map] <;> rfl)).ev)))) (fun hb1 => ?_) (fun hb1 => ?_)
    · rw [all_map] at hb1
      refine go_app 0 (ev_var (by rfl)) (ev_var (by rfl)) (by rfl) h0 (by rw [natsD_len]; omega) (go_inv ⟨?_, _, _, rfl⟩)
      rw [e, hb1, if_pos rfl, natsD_app]
      rfl
    · rw [all_map] at hb1
      refine go_next (go_inv ⟨?_, _, _, rfl⟩)
      rw [e, hb1, if_neg Bool.false_ne_true, List.append_nil]
  · rintro Ms' As' ⟨rfl, X, Y, rfl⟩
    rw [List.take_length]
    refine go_frz (i := 3) (by rfl) h0 ?_
    exact go_ret (by exact q) (ev_var (by rfl))
abbrev sHeldRows : Stmt := topS 24
abbrev nHeldRows : List Str := ["row", "order", "users", "at"]
theorem scHeldRows : FnScope nHeldRows ["row", "order"] (defScope sHeldRows) := ⟨rfl, rfl, rfl, by decide +kernel, rfl, by decide +kernel, by decide +kernel⟩
def spHeldRows : Sp := fun vs H Q _ => ∃ (Ms : MS) (r : Row) (o : List Nat), r.Ok ∧ IsOrd r o ∧ Pu Ms [dp (encR r), dp (.tuple (natsD o))] (dp (.list ((heldRows r o).map fun l => .list (natsD l)))) vs H Q
theorem natsD_take (l : List Nat) (k : Nat) : cutD (natsD l) none (some ((k : Int))) = natsD (l.take k) := by
  rw [cutD_to]
  unfold natsD
  rw [List.map_take]
theorem cal_held_rows (T : Txt K mg) (c_users_of : C8.Cal P w K mg base 3 "users_of" spUsersOf []) (c_held_of : C8.Cal P w K mg base 1 "held_of" spHeldOf []) : C8.Cal P w K mg base 4 "held_rows" spHeldRows [] := by
  refine mk_cal (x := "held_rows") (i := 24) (j := 12) T rfl scHeldRows (fun _ _ _ _ _ _ us hl => match us, hl with | [_, _], _ => rfl) (fun vs H Q E h => ?_) (fun f cdv A outer s H vs Q E hr h => ?_)
  · obtain ⟨Ms, r, o, _, _, R, _, _, h, _⟩ := h
    exact (paired_len h).trans rfl
  obtain ⟨Ms, r, o, ok, io, R, wf, mu, ha, q⟩ := h
  refine ⟨_, (pss_cons (ps_set (i := 2) scHeldRows.nd rfl (by first | exact Or.inl rfl | exact Or.inr rfl) (C8.pe_c c_users_of hr (by decide) rfl (pa_cons (pv 0) pa_nil)))
      (pss_one (ps_ret (pe_lc (own := [("at", 3)]) rfl scHeldRows.nd (pi_range1 rfl T.b_range (pa_cons (pe_callB (k_len K) (by rfl) T.b_len b_len (pa_cons (pv 1) pa_nil)) pa_nil)) (blkOk_by (own := [("at", 3)]) (N := nHeldRows) (sc := defScope sHeldRows) (by decide +kernel)) (fun _ _ _ _ _ => (pg_name (i := 3) scHeldRows.nd rfl (by first | exact Or.inl rfl | exact Or.inr rfl))) (fun _ _ _ _ _ => pts_nil) (fun _ _ _ _ _ => (C8.pe_c c_held_of hr (by decide) rfl (pa_cons (pv 0) (pa_cons (pv 2) (pa_cons (pe_slice (k_slT K) (pv 1) po_none (po_some (pe_op op_add (pv 3) pe_int))) pa_nil))))))))), ?_⟩
  refine go_start wf mu ha ?_
  have ol : o.length ≤ 1000 := by rw [io.len]; exact Nat.le_trans (needed_len r) ok.len
  refine go_seq (go_asg (ev_call (ea_cons (ev_var (by rfl)) ea_nil) (fun vs H Q h => ⟨_, r, ok, h⟩)) ?_)
  have e : (heldRows r o).map (fun l => PyData.list (natsD l)) = (List.range o.length).map fun t => PyData.list (natsD (heldOf r (o.take (t + 1)))) := by
    unfold heldRows
    rw [List.map_map] <;> rfl
  rw [e] at q
  refine go_ret (by exact q) (el_map (List.range o.length) (fun i : Nat => .int (i : Int)) (fun t => PyData.list (natsD (heldOf r (o.take (t + 1))))) ((ei_r1 (ev_len (ev_var (by rfl)).sqT) (by rw [natsD_len]; omega)).to (by rw [natsD_len, Int.toNat_natCast, rgD_zero]; rfl)) (fun _ _ => tg_name) (fun t ht => ?_) (by rw [List.length_range]; omega) (by decide)).ev
  refine ev_call (ea_cons (ev_var (by rfl)) (ea_cons (ev_var (by rfl)) (ea_cons ((ev_slT (ev_var (by rfl)) eo_none (eo_some ((ev_add (ev_var (by rfl)) ev_int).to (by rfl)))).to (?_ : PyData.tuple (cutD (natsD o) none (some ((t : Int) + 1))) = .tuple (natsD (o.take (t + 1))))) ea_nil))) (fun vs H Q h => ⟨_, r, o.take (t + 1), ok, ?_, ?_, h⟩)
  · have := natsD_take o (t + 1)
    rw [← this]
    congr 2
  · rw [List.length_take]; omega
  · exact fun x hx => io.mem.mp (List.mem_of_mem_take hx)
end
end Rb
end
section
set_option Elab.async false
set_option linter.all false
set_option autoImplicit false
set_option maxRecDepth 100000
set_option maxHeartbeats 4000000
namespace Rb
open PySem PySem.Spec PyProof.Rows L2
section
variable {P : Program} {w : World} {K : PySem.W.Frag} {mg : Str → Option Value} {base : Heap}
/-! ### is_order, require_order -/
abbrev sIsOrder : Stmt := topS 21
abbrev nIsOrder : List Str := ["row", "value", "one", "at", "number", "item"]
theorem scIsOrder : FnScope nIsOrder ["row", "value"] (defScope sIsOrder) := ⟨rfl, rfl, rfl, by decide +kernel, rfl, by decide +kernel, by decide +kernel⟩
def spIsOrder : Sp := fun vs H Q _ => ∃ (Ms : MS) (r : Row) (o : List Nat), r.Ok ∧ r.steps.length ≤ 60 ∧ IsOrd r o ∧ Pu Ms [dp (encR r), dp (.tuple (natsD o))] (dp (.bool true)) vs H Q
theorem enD_nats (o : List Nat) : enD (natsD o) = o.zipIdx.map fun p => PyData.tuple [.int (p.2 : Int), .int (p.1 : Int)] := by
  unfold enD natsD
  rw [List.zipIdx_map, List.map_map] <;> rfl
theorem rise_le {l : List Nat} (h : l.Pairwise (· < ·)) : (nI l).Pairwise (· ≤ ·) := (nI_rising h).imp fun h => Int.le_of_lt h
theorem cal_is_order (T : Txt K mg) (c_is_integer : C8.Cal P w K mg base 1 "is_integer" spIsInteger []) (c_steps_used : C8.Cal P w K mg base 1 "steps_used" spStepsUsed []) (c_needed : C8.Cal P w K mg base 2 "needed" spNeeded []) : C8.Cal P w K mg base 3 "is_order" spIsOrder [] := by
  refine mk_cal (x := "is_order") (i := 21) (j := 9) T rfl scIsOrder (fun _ _ _ _ _ _ us hl => match us, hl with | [_, _], _ => rfl) (fun vs H Q E h => ?_) (fun f cdv A outer s H vs Q E hr h => ?_)
  · obtain ⟨Ms, r, o, _, _, _, R, _, _, h, _⟩ := h
    exact (paired_len h).trans rfl
  obtain ⟨Ms, r, o, ok, sl, io, R, wf, mu, ha, q⟩ := h
  refine ⟨_, (pss_cons (ps_if (PW.pt (pw_or (pt_not (pt_val (pe_callB (k_isi K) (by rfl) T.b_isinstance b_isinstance (pa_cons (pv 1) (pa_cons (pe_bltn (v := .ty "tuple") (by rfl) T.b_tuple b_tuple rfl) pa_nil))))) (pw_or1 (pt_not (pt_val (pe_callB (k_all K rfl) (by rfl) T.b_all b_all (pa_cons (pe_lc (own := [("item", 5)]) rfl scIsOrder.nd (k_pi_tup K (pv 1)) (blkOk_by (own := [("item", 5)]) (N := nIsOrder) (sc := defScope sIsOrder) (by decide +kernel)) (fun _ _ _ _ _ => (pg_name (i := 5) scIsOrder.nd rfl (by first | exact Or.inl rfl | exact Or.inr rfl))) (fun _ _ _ _ _ => pts_nil) (fun _ _ _ _ _ => (C8.pe_c c_is_integer hr (by decide) rfl (pa_cons (pv 5) (pa_cons pe_int (pa_cons (pe_op op_sub (pe_callB (k_len K) (by rfl) T.b_len b_len (pa_cons (pe_ix (k_ix_tup K) (pv 0) pe_int (fun _ _ => rfl)) pa_nil)) pe_int) pa_nil)))))) pa_nil))))))) (pss_one (ps_ret pe_bl)) pss_nil)
      (pss_cons (ps_if (pt_cmpR (k_neD K hr.units) (pe_callTy (k_tupof K) (by rfl) T.b_tuple b_tuple (pa_cons (pe_callB (cr_sortedTu K) (by rfl) T.b_sorted b_sorted (pa_cons (pv 1) pa_nil)) pa_nil)) (C8.pe_c c_needed hr (by decide) rfl (pa_cons (pv 0) pa_nil)) (nomark _)) (pss_one (ps_ret pe_bl)) pss_nil)
      (pss_one (ps_ret (pe_callB (k_all K rfl) (by rfl) T.b_all b_all (pa_cons (pe_lc2 (own := [("at", 3), ("number", 4), ("one", 2)]) (vs1 := [2]) rfl scIsOrder.nd (pi_enumT K (by rfl) T.b_enumerate (pa_cons (pv 1) pa_nil)) (blkOk_by (own := [("at", 3), ("number", 4), ("one", 2)]) (N := nIsOrder) (sc := defScope sIsOrder) (by decide +kernel)) (by decide) (fun _ _ _ _ _ => (k_pg_tup K (n := 2) rfl (pgs_cons (pg_name (i := 3) scIsOrder.nd rfl (by first | exact Or.inl rfl | exact Or.inr rfl)) (pgs_cons (pg_name (i := 4) scIsOrder.nd rfl (by first | exact Or.inl rfl | exact Or.inr rfl)) pgs_nil)))) (fun _ _ _ _ _ => pts_nil) (fun _ _ _ _ _ => (k_pi_tup K (C8.pe_c c_steps_used hr (by decide) rfl (pa_cons (pe_ix (k_ix_tup K) (pe_ix (k_ix_tup K) (pv 0) pe_int (fun _ _ => rfl)) (pv 4) (fun _ _ => rfl)) pa_nil)))) (fun _ _ _ _ _ => (pg_name (i := 2) scIsOrder.nd rfl (by first | exact Or.inl rfl | exact Or.inr rfl))) (fun _ _ _ _ _ => pts_nil) (fun _ _ _ _ _ => (pe_cmpR (k_in K) (pv 2) (pe_slice (k_slT K) (pv 1) po_none (po_some (pv 3))) (by rfl)))) pa_nil)))))), ?_⟩
  refine go_start wf mu ha ?_
  have ol : o.length ≤ 60 := by rw [io.len]; exact Nat.le_trans (needed_len r) sl
  have hn : (r.steps.map encS).length = r.steps.length := List.length_map _
  refine go_seq (go_ifF (et_or (et_not (et_test (ev_isiT (b := true) (ev_var (by rfl)) ev_gl (kit_ty (by decide +kernel))))) (fun _ => et_not (et_test (ev_all (bs := o.map fun n : Nat => (decide ((0 : Int) ≤ (n : Int)) && decide ((n : Int) ≤ (r.steps.length : Int) - 1)))
    ((el_map o (fun n : Nat => .int (n : Int)) (fun n : Nat => .bool (decide ((0 : Int) ≤ (n : Int)) && decide ((n : Int) ≤ (r.steps.length : Int) - 1))) (ei_tup (ev_var (by rfl))) (fun _ _ => tg_name)
      (fun n hn' => ev_call (ea_cons (ev_var (by rfl)) (ea_cons ev_int (ea_cons ((ev_sub (ev_len (ev_ixTn 1 (ev_var (by rfl)) ev_int (by rfl)).sqT) ev_int).to (by rw [hn])) ea_nil))) (fun vs H Q h => ⟨_, _, _, _, h⟩)) (by omega) (by decide)).to (by rw [List.map_map] <;> rfl)).ev)))) ?_ (go_next ?_))
  · rw [all_map]
    have : (o.all fun n : Nat => (decide ((0 : Int) ≤ (n : Int)) && decide ((n : Int) ≤ (r.steps.length : Int) - 1))) = true := by
      rw [List.all_eq_true]
      intro n hn'
      have := nd_lt (io.mem.mp hn')
      simp
      omega
    rw [this]
    rfl
  refine go_seq (go_ifF (et_B (ev_neD (ev_tupleOf (el_sortedTu (ns := nI o) (ms := nI (needed r)) ((ev_var (by rfl)).to (by rw [natsD_nI])) (by rw [nI_len]; omega) (io.perm.symm.map _) (rise_le (needed_rising r))).ev.ls) ((ev_needed ok (by rfl)).to (by rw [natsD_nI])) (shaped_tup _) (shaped_tup _))) ?_ (go_next ?_))
  · rw [eqv_tup]
    simp
  refine go_ret (by exact q) ((ev_all (bs := o.zipIdx.flatMap fun p => (r.uses p.1).map fun u => decide (u ∈ o.take p.2)) ((el_lc2 o.zipIdx (fun p => PyData.tuple [.int (p.2 : Int), .int (p.1 : Int)]) (fun p => r.uses p.1) (fun u : Nat => .int (u : Int)) (fun p u => .bool (decide (u ∈ o.take p.2)))
    ((ei_enumT (ev_var (by rfl))).to (enD_nats o)) (fun _ _ => tg_pair) (fun p hp => ei_tup (ev_uses (by rfl) (ev_var (by rfl)) ?_)) (fun _ _ _ _ => tg_name) (fun p hp u hu => ev_inN (ev_var (by rfl)) (((ev_slT (ev_var (by rfl)) eo_none (eo_some (ev_var (by rfl)))).to (by rw [natsD_take])).sqT)) ?_ ?_ (by decide) (by decide)).to ?_).ev).to ?_)
  · have := List.mem_zipIdx hp
    have h1 : p.1 ∈ o := by rw [this.2.2]; exact List.getElem_mem _
    exact nd_lt (io.mem.mp h1)
  · rw [List.length_zipIdx]; omega
  · intro p _; have := uses_len r p.1; omega
  · rw [List.map_flatMap]
    congr 1
    funext p
    rw [List.map_map] <;> rfl
  · congr 1
    rw [List.all_eq_true]
    intro b hb
    obtain ⟨p, hp, hb⟩ := List.mem_flatMap.mp hb
    obtain ⟨u, hu, rfl⟩ := List.mem_map.mp hb
    have z := List.mem_zipIdx hp
    have e : o[p.2]? = some p.1 := by
      rw [List.getElem?_eq_getElem (by omega), z.2.2]
      congr 1
    simpa using io.uses p.2 p.1 e u hu
abbrev sRequireOrder : Stmt := topS 22
abbrev nRequireOrder : List Str := ["row", "value"]
theorem scRequireOrder : FnScope nRequireOrder ["row", "value"] (defScope sRequireOrder) := ⟨rfl, rfl, rfl, by decide +kernel, rfl, by decide +kernel, by decide +kernel⟩
def spRequireOrder : Sp := fun vs H Q _ => ∃ (Ms : MS) (r : Row) (o : List Nat), r.Ok ∧ r.steps.length ≤ 60 ∧ IsOrd r o ∧ Pu Ms [dp (encR r), dp (.tuple (natsD o))] (dp .none) vs H Q
theorem cal_require_order (T : Txt K mg) (c_is_order : C8.Cal P w K mg base 3 "is_order" spIsOrder []) : C8.Cal P w K mg base 4 "require_order" spRequireOrder [] := by
  refine mk_cal (x := "require_order") (i := 22) (j := 10) T rfl scRequireOrder (fun _ _ _ _ _ _ us hl => match us, hl with | [_, _], _ => rfl) (fun vs H Q E h => ?_) (fun f cdv A outer s H vs Q E hr h => ?_)
  · obtain ⟨Ms, r, o, _, _, _, R, _, _, h, _⟩ := h
    exact (paired_len h).trans rfl
  obtain ⟨Ms, r, o, ok, sl, io, R, wf, mu, ha, q⟩ := h
  refine ⟨_, (pss_one (ps_if (pt_not (pt_val (C8.pe_c c_is_order hr (by decide) rfl (pa_cons (pv 0) (pa_cons (pv 1) pa_nil))))) (pss_one ps_never) pss_nil)), ?_⟩
  refine go_start wf mu ha ?_
  refine go_ifF (et_not (et_test (ev_call (ea_cons (ev_var (by rfl)) (ea_cons (ev_var (by rfl)) ea_nil)) (fun vs H Q h => ⟨_, r, o, ok, sl, io, h⟩)))) (by rfl) (go_next ?_)
  exact fun σ H' R' g s => q _ H' R' g .non
/-! ### held, load -/
abbrev sHeld : Stmt := topS 25
abbrev nHeld : List Str := ["row", "value", "some"]
theorem scHeld : FnScope nHeld ["row", "value"] (defScope sHeld) := ⟨rfl, rfl, rfl, by decide +kernel, rfl, by decide +kernel, by decide +kernel⟩
def spHeld : Sp := fun vs H Q _ => ∃ (Ms : MS) (r : Row) (o : List Nat), r.Ok ∧ r.steps.length ≤ 60 ∧ IsOrd r o ∧ Pu Ms [dp (encR r), dp (.tuple (natsD o))] (dp (.tuple (natsD (heldNums r o)))) vs H Q
theorem cal_held (T : Txt K mg) (c_require_order : C8.Cal P w K mg base 4 "require_order" spRequireOrder []) (c_held_rows : C8.Cal P w K mg base 4 "held_rows" spHeldRows []) : C8.Cal P w K mg base 5 "held" spHeld [] := by
  refine mk_cal (x := "held") (i := 25) (j := 13) T rfl scHeld (fun _ _ _ _ _ _ us hl => match us, hl with | [_, _], _ => rfl) (fun vs H Q E h => ?_) (fun f cdv A outer s H vs Q E hr h => ?_)
  · obtain ⟨Ms, r, o, _, _, _, R, _, _, h, _⟩ := h
    exact (paired_len h).trans rfl
  obtain ⟨Ms, r, o, ok, sl, io, R, wf, mu, ha, q⟩ := h
  refine ⟨_, (pss_cons (ps_expr (C8.pe_c c_require_order hr (by decide) rfl (pa_cons (pv 0) (pa_cons (pv 1) pa_nil))))
      (pss_one (ps_ret (pe_callTy (k_tupof K) (by rfl) T.b_tuple b_tuple (pa_cons (pe_lc (own := [("some", 2)]) rfl scHeld.nd (k_pi_list K (C8.pe_c c_held_rows hr (by decide) rfl (pa_cons (pv 0) (pa_cons (pv 1) pa_nil)))) (blkOk_by (own := [("some", 2)]) (N := nHeld) (sc := defScope sHeld) (by decide +kernel)) (fun _ _ _ _ _ => (pg_name (i := 2) scHeld.nd rfl (by first | exact Or.inl rfl | exact Or.inr rfl))) (fun _ _ _ _ _ => pts_nil) (fun _ _ _ _ _ => (pe_callB (k_len K) (by rfl) T.b_len b_len (pa_cons (pv 2) pa_nil)))) pa_nil))))), ?_⟩
  refine go_start wf mu ha ?_
  have ol : o.length ≤ 60 := by rw [io.len]; exact Nat.le_trans (needed_len r) sl
  refine go_seq (go_drop (ev_call (r := dp .none) (ea_cons (ev_var (by rfl)) (ea_cons (ev_var (by rfl)) ea_nil)) (fun vs H Q h => ⟨_, r, o, ok, sl, io, h⟩)) ?_)
  have e : PyData.tuple (natsD (heldNums r o)) = .tuple ((heldRows r o).map fun l => PyData.int (l.length : Int)) := by
    unfold heldNums natsD
    rw [List.map_map] <;> rfl
  rw [e] at q
  refine go_ret (by exact q) (ev_tupleOf (el_map (heldRows r o) (fun l => .list (natsD l)) (fun l => PyData.int (l.length : Int)) (ei_list (ev_call (ea_cons (ev_var (by rfl)) (ea_cons (ev_var (by rfl)) ea_nil)) (fun vs H Q h => ⟨_, r, o, ok, io, h⟩))) (fun _ _ => tg_name)
    (fun l hl => (ev_len (ev_var (by rfl)).sqL).to (by rw [natsD_len])) (by unfold heldRows; rw [List.length_map, List.length_range]; omega) (by decide)).ev.ls)
abbrev sLoad : Stmt := topS 26
abbrev nLoad : List Str := ["row", "value"]
theorem scLoad : FnScope nLoad ["row", "value"] (defScope sLoad) := ⟨rfl, rfl, rfl, by decide +kernel, rfl, by decide +kernel, by decide +kernel⟩
def spLoad : Sp := fun vs H Q _ => ∃ (Ms : MS) (r : Row) (o : List Nat), r.Ok ∧ r.steps.length ≤ 60 ∧ IsOrd r o ∧ Pu Ms [dp (encR r), dp (.tuple (natsD o))] (dp (.int (loadOf r o : Int))) vs H Q
theorem ord_ne {r : Row} {o : List Nat} (ok : r.Ok) (io : IsOrd r o) : o ≠ [] := fun e => by
  cases he : r.ends with
  | nil => exact ok.ne he
  | cons x l =>
    have h : x ∈ o := io.mem.mpr (nd_end ok (by rw [he]; exact List.mem_cons_self))
    rw [e] at h
    cases h
theorem heldNums_ne {r : Row} {o : List Nat} (h : o ≠ []) : heldNums r o ≠ [] := fun e => by
  have := congrArg List.length e
  unfold heldNums heldRows at this
  rw [List.length_map, List.length_map, List.length_range] at this
  exact h (List.length_eq_zero_iff.mp this)
theorem ev_maxN {c : Kx} {Ms : MS} {As : AS} {te : TE} {l : List Nat} (h : Ev c Ms As te (dp (.tuple (natsD l)))) (hl : l ≠ []) : Ev c Ms As (tCB (rMaxT K) (tCons te tNil)) (dp (.int (maxL l : Int))) := by
  refine ev_maxT (ns := nI l) (h.to (by rw [natsD_nI])) (mem_nI.mpr ⟨_, maxL_mem hl, rfl⟩) fun y hy => ?_
  obtain ⟨n, hn, rfl⟩ := mem_nI.mp hy
  have := le_maxL hn
  omega
theorem cal_load (T : Txt K mg) (c_held : C8.Cal P w K mg base 5 "held" spHeld []) : C8.Cal P w K mg base 6 "load" spLoad [] := by
  refine mk_cal (x := "load") (i := 26) (j := 14) T rfl scLoad (fun _ _ _ _ _ _ us hl => match us, hl with | [_, _], _ => rfl) (fun vs H Q E h => ?_) (fun f cdv A outer s H vs Q E hr h => ?_)
  · obtain ⟨Ms, r, o, _, _, _, R, _, _, h, _⟩ := h
    exact (paired_len h).trans rfl
  obtain ⟨Ms, r, o, ok, sl, io, R, wf, mu, ha, q⟩ := h
  refine ⟨_, (pss_one (ps_ret (pe_callB (cr_maxT K rfl hr.units) (by rfl) T.b_max b_max (pa_cons (C8.pe_c c_held hr (by decide) rfl (pa_cons (pv 0) (pa_cons (pv 1) pa_nil))) pa_nil)))), ?_⟩
  refine go_start wf mu ha ?_
  exact go_ret (by exact q) (ev_maxN (ev_call (ea_cons (ev_var (by rfl)) (ea_cons (ev_var (by rfl)) ea_nil)) (fun vs H Q h => ⟨_, r, o, ok, sl, io, h⟩)) (heldNums_ne (ord_ne ok io)))
/-! ### slots -/
def kvsZ (o s : List Nat) : List (Int × PyData) := (o.zip s).map fun p => ((p.1 : Int), .int (p.2 : Int))
theorem kvsZ_get {o s : List Nat} (h : o.Nodup) {j x v : Nat} (hi : j < s.length) (e : o[j]? = some x) (e' : s[j]? = some v) : getK (kvsZ (o.take s.length) s) (x : Int) = some (.int (v : Int)) := by
  refine getK_of_mem ?_ (List.mem_map.mpr ⟨(x, v), ?_, rfl⟩)
  · unfold kvsZ
    rw [List.map_map]
    have : ((o.take s.length).zip s).map (Prod.fst ∘ fun p : Nat × Nat => ((p.1 : Int), PyData.int (p.2 : Int))) = (((o.take s.length).zip s).map Prod.fst).map fun n : Nat => (n : Int) := by
      rw [List.map_map] <;> rfl
    rw [this, List.map_fst_zip (by rw [List.length_take]; omega)]
    exact nI_nodup (List.Nodup.sublist (List.take_sublist _ _) h)
  · refine List.mem_of_getElem? (i := j) ?_
    rw [List.getElem?_zip_eq_some]
    exact ⟨by rw [List.getElem?_take, if_pos hi]; exact e, e'⟩
theorem kvsZ_look {o s : List Nat} (h : o.Nodup) {x : Nat} (hx : x ∈ o.take s.length) : getK (kvsZ (o.take s.length) s) (x : Int) = some (.int (lookN o s x : Int)) := by
  obtain ⟨j, hj, e⟩ := List.getElem_of_mem hx
  rw [List.length_take] at hj
  rw [List.getElem_take] at e
  have e1 : o[j]? = some x := by rw [List.getElem?_eq_getElem (by omega), e]
  have e2 : s[j]? = some s[j] := List.getElem?_eq_getElem (by omega)
  rw [lookN_get h e1 e2]
  exact kvsZ_get h (by omega) e1 e2
theorem setK_new {κ β : Type} [DecidableEq κ] {kvs : List (κ × β)} {k : κ} {v : β} (h : k ∉ kvs.map Prod.fst) : setK kvs k v = kvs ++ [(k, v)] := by
  unfold setK
  rw [if_neg]
  intro z
  obtain ⟨q, hq, e⟩ := List.any_eq_true.mp z
  exact h (List.mem_map.mpr ⟨q, hq, of_decide_eq_true e⟩)
theorem kvsZ_put {o s : List Nat} (h : o.Nodup) {x v : Nat} (e : o[s.length]? = some x) : setK (kvsZ (o.take s.length) s) (x : Int) (PyData.int (v : Int)) = kvsZ (o.take (s ++ [v]).length) (s ++ [v]) := by
  have hl : s.length < o.length := (List.getElem?_eq_some_iff.mp e).1
  rw [setK_new]
  · rw [List.length_append, List.length_singleton, take_snoc e]
    unfold kvsZ
    rw [List.zip_append (by rw [List.length_take]; omega), List.map_append]
    rfl
  · intro z
    unfold kvsZ at z
    rw [List.map_map] at z
    obtain ⟨p, hp, ep⟩ := List.mem_map.mp z
    have ep' : p.1 = x := by have : (p.1 : Int) = (x : Int) := ep; omega
    have hm : x ∈ o.take s.length := by
      rw [← ep']
      exact (List.of_mem_zip hp).1
    obtain ⟨j, hj, ej⟩ := List.getElem_of_mem hm
    rw [List.length_take] at hj
    rw [List.getElem_take] at ej
    have h2 := List.getElem?_eq_some_iff.mp e
    have := (List.getElem_inj h).mp (ej.trans h2.2.symm)
    omega
abbrev sSlots : Stmt := topS 27
abbrev nSlots : List Str := ["row", "value", "found", "before", "number", "some", "taken", "one", "slot"]
theorem scSlots : FnScope nSlots ["row", "value"] (defScope sSlots) := ⟨rfl, rfl, rfl, by decide +kernel, rfl, by decide +kernel, by decide +kernel⟩
def spSlots : Sp := fun vs H Q _ => ∃ (Ms : MS) (r : Row) (o : List Nat), r.Ok ∧ r.steps.length ≤ 60 ∧ IsOrd r o ∧ Pu Ms [dp (encR r), dp (.tuple (natsD o))] (dp (.tuple (natsD (slotsOf r o)))) vs H Q
theorem heldRows_get {r : Row} {o : List Nat} {i : Nat} (h : i < o.length) : (heldRows r o)[i]? = some (heldOf r (o.take (i + 1))) := by
  unfold heldRows
  rw [List.getElem?_map, List.getElem?_range h]
  rfl
theorem heldRows_len (r : Row) (o : List Nat) : (heldRows r o).length = o.length := by unfold heldRows; rw [List.length_map, List.length_range]
theorem cal_slots (T : Txt K mg) (c_require_order : C8.Cal P w K mg base 4 "require_order" spRequireOrder []) (c_held_rows : C8.Cal P w K mg base 4 "held_rows" spHeldRows []) : C8.Cal P w K mg base 5 "slots" spSlots [] := by
  refine mk_cal (x := "slots") (i := 27) (j := 15) T rfl scSlots (fun _ _ _ _ _ _ us hl => match us, hl with | [_, _], _ => rfl) (fun vs H Q E h => ?_) (fun f cdv A outer s H vs Q E hr h => ?_)
  · obtain ⟨Ms, r, o, _, _, _, R, _, _, h, _⟩ := h
    exact (paired_len h).trans rfl
  obtain ⟨Ms, r, o, ok, sl, io, R, wf, mu, ha, q⟩ := h
  refine ⟨_, (pss_cons (ps_expr (C8.pe_c c_require_order hr (by decide) rfl (pa_cons (pv 0) (pa_cons (pv 1) pa_nil))))
      (pss_cons (ps_asg (pe_tup (pa_cons pe_dnewK (pa_cons (pe_lst pa_nil) pa_nil))) (k_pg_tup K (n := 2) rfl (pgs_cons (pg_name (i := 2) scSlots.nd rfl (by first | exact Or.inl rfl | exact Or.inr rfl)) (pgs_cons (pg_name (i := 3) scSlots.nd rfl (by first | exact Or.inl rfl | exact Or.inr rfl)) pgs_nil))))
      (pss_cons (ps_for PassesOwn.never rfl (pi_zipTL K (by rfl) T.b_zip (pa_cons (pv 1) (pa_cons (C8.pe_c c_held_rows hr (by decide) rfl (pa_cons (pv 0) (pa_cons (pv 1) pa_nil))) pa_nil))) (k_pg_tup K (n := 2) rfl (pgs_cons (pg_name (i := 4) scSlots.nd rfl (by first | exact Or.inl rfl | exact Or.inr rfl)) (pgs_cons (pg_name (i := 5) scSlots.nd rfl (by first | exact Or.inl rfl | exact Or.inr rfl)) pgs_nil)))
      (pss_cons (ps_set (i := 6) scSlots.nd rfl (by first | exact Or.inl rfl | exact Or.inr rfl) (pe_lc (own := [("one", 7)]) rfl scSlots.nd (k_pi_list K (pv 3)) (blkOk_by (own := [("one", 7)]) (N := nSlots) (sc := defScope sSlots) (by decide +kernel)) (fun _ _ _ _ _ => (pg_name (i := 7) scSlots.nd rfl (by first | exact Or.inl rfl | exact Or.inr rfl))) (fun _ _ _ _ _ => (pts_one (pt_cmpR (k_in K) (pv 7) (pv 5) (by rfl)))) (fun _ _ _ _ _ => (pe_dget (hu_of hr) (pv 2) (pv 7) (fun _ _ => rfl)))))
      (pss_cons (ps_dput (hu_of hr) (pv 2) (pv 4) (pe_callB (k_min K rfl) (by rfl) T.b_min b_min (pa_cons (pe_lc (own := [("slot", 8)]) rfl scSlots.nd (pi_range1 rfl T.b_range (pa_cons (pe_op op_add (pe_callB (k_len K) (by rfl) T.b_len b_len (pa_cons (pv 6) pa_nil)) pe_int) pa_nil)) (blkOk_by (own := [("slot", 8)]) (N := nSlots) (sc := defScope sSlots) (by decide +kernel)) (fun _ _ _ _ _ => (pg_name (i := 8) scSlots.nd rfl (by first | exact Or.inl rfl | exact Or.inr rfl))) (fun _ _ _ _ _ => (pts_one (pt_cmpR (k_notin K) (pv 8) (pv 6) (by rfl)))) (fun _ _ _ _ _ => (pv 8))) pa_nil)) rfl)
      (pss_one (ps_set (i := 3) scSlots.nd rfl (by first | exact Or.inl rfl | exact Or.inr rfl) (pv 5))))))
      (pss_one (ps_ret (pe_callTy (k_tupof K) (by rfl) T.b_tuple b_tuple (pa_cons (pe_lc (own := [("number", 4)]) rfl scSlots.nd (k_pi_tup K (pv 1)) (blkOk_by (own := [("number", 4)]) (N := nSlots) (sc := defScope sSlots) (by decide +kernel)) (fun _ _ _ _ _ => (pg_name (i := 4) scSlots.nd rfl (by first | exact Or.inl rfl | exact Or.inr rfl))) (fun _ _ _ _ _ => pts_nil) (fun _ _ _ _ _ => (pe_dget (hu_of hr) (pv 2) (pv 4) (fun _ _ => rfl)))) pa_nil))))))), ?_⟩
  refine go_start wf mu ha ?_
  have ol : o.length ≤ 60 := by rw [io.len]; exact Nat.le_trans (needed_len r) sl
  have on := io.nodup
  refine go_seq (go_drop (ev_call (r := dp .none) (ea_cons (ev_var (by rfl)) (ea_cons (ev_var (by rfl)) ea_nil)) (fun vs H Q h => ⟨_, r, o, ok, sl, io, h⟩)) ?_)
  refine go_seq (go_tupNA en_dK (fun p => (el_lst0 (Ms := (p, .dK []) :: Ms)).ev) fun p h0 => ?_)
  refine go_seq (go_for2 (o.zip (heldRows r o)) (fun p => .int (p.1 : Int)) (fun p => .list (natsD p.2)) ((ei_zipTL (ev_var (by rfl)) (ev_call (ea_cons (ev_var (by rfl)) (ea_cons (ev_var (by rfl)) ea_nil)) (fun vs H Q h => ⟨_, r, o, ok, io, h⟩)) (by rw [natsD_len, List.length_map, heldRows_len])).to ?_)
    (fun i Ms' As' => Ms' = (p, .dK (kvsZ (o.take (slotsUp r o i).length) (slotsUp r o i))) :: Ms ∧ ∃ X4 X5 X6 X7 X8, As' = [some (dp (encR r)), some (dp (.tuple (natsD o))), some (valA (.ref p)), some (dp (.list (natsD (heldOf r (o.take i))))), X4, X5, X6, X7, X8]) ⟨rfl, _, _, _, _, _, rfl⟩ ?_ ?_)
  · unfold zipD natsD
    rw [List.zip_map, List.map_map] <;> rfl
  · rintro Rb hb i pr Ms' As' hx ⟨rfl, X4, X5, X6, X7, X8, rfl⟩
    obtain ⟨x, hd⟩ := pr
    rw [List.getElem?_zip_eq_some] at hx
    obtain ⟨hx1, hx2⟩ := hx
    have hi : i < o.length := (List.getElem?_eq_some_iff.mp hx1).1
    rw [heldRows_get hi] at hx2
    cases hx2
    have hsl : (slotsUp r o i).length = i := slotsUp_len r o i
    have hbl : (heldOf r (o.take i)).length ≤ 60 := by
      have h1 := List.length_filter_le (fun x => decide (x ∈ r.ends) || !((users r x).all fun y => decide (y ∈ o.take i))) (o.take i)
      rw [List.length_take] at h1
      unfold heldOf
      omega
    have htl : (takenAt r o (slotsUp r o i) i).length ≤ 60 := by
      unfold takenAt
      rw [List.length_map]
      exact Nat.le_trans (List.length_filter_le _ _) hbl
    refine go_seq (go_asg (el_lc (heldOf r (o.take i)) (fun n : Nat => .int (n : Int)) (fun n => decide (n ∈ heldOf r (o.take (i + 1)))) (fun n => .int (lookN o (slotsUp r o i) n : Int)) (ei_list (ev_var (by rfl))) (fun _ _ => tg_name) (fun n hn => et_B (ev_inN (ev_var (by rfl)) (ev_var (by rfl)).sqL)) (fun n hn _ => ?_) (by omega) (by decide)).ev ?_)
    · exact ev_dgetK (Ev.dko (ev_var (by rfl)) List.mem_cons_self) (ev_var (by rfl)) (kvsZ_look on (by rw [hsl]; exact heldOf_sub hn))
    have et : ((heldOf r (o.take i)).filter (fun n => decide (n ∈ heldOf r (o.take (i + 1))))).map (fun n => PyData.int (lookN o (slotsUp r o i) n : Int)) = natsD (takenAt r o (slotsUp r o i) i) := by
      unfold takenAt natsD
      rw [List.map_map] <;> rfl
    rw [et]
    have hm := mexN_spec (takenAt r o (slotsUp r o i) i)
    refine go_seq (go_dputK 0 (ev_min (ns := nI ((List.range ((takenAt r o (slotsUp r o i) i).length + 1)).filter fun n => !decide (n ∈ takenAt r o (slotsUp r o i) i))) (k := (mexN (takenAt r o (slotsUp r o i) i) : Int)) ((el_lc (List.range ((takenAt r o (slotsUp r o i) i).length + 1)) (fun n : Nat => .int (n : Int)) (fun n => !decide (n ∈ takenAt r o (slotsUp r o i) i)) (fun n : Nat => .int (n : Int))
      ((ei_r1 (ev_add (ev_len (ev_var (by rfl)).sqL) ev_int) (by rw [natsD_len]; omega)).to ?_) (fun _ _ => tg_name) (fun n hn => et_B (ev_niN (ev_var (by rfl)) (ev_var (by rfl)).sqL)) (fun n hn _ => ev_var (by rfl)) (by rw [List.length_range]; omega) (by decide)).to ?_).ev (mem_nI.mpr ⟨_, hm.1, rfl⟩) ?_) (ev_var (by rfl)) (ev_var (by rfl)) (by rfl) h0 ?_ ?_)
    · rw [natsD_len, show (((takenAt r o (slotsUp r o i) i).length : Int) + 1).toNat = (takenAt r o (slotsUp r o i) i).length + 1 by omega, rgD_zero]
      rfl
    · unfold nI intsD
      rw [List.map_map] <;> rfl
    · intro y hy
      obtain ⟨n, hn, rfl⟩ := mem_nI.mp hy
      have := hm.2 n hn
      omega
    · unfold kvsZ
      rw [List.length_map, List.length_zip, List.length_take]
      omega
    refine go_asg (ev_var (by rfl)) (go_inv ⟨?_, _, _, _, _, _, rfl⟩)
    show (p, Mc.dK (setK (kvsZ (o.take (slotsUp r o i).length) (slotsUp r o i)) (x : Int) (.int (mexN (takenAt r o (slotsUp r o i) i) : Int)))) :: Ms = _
    rw [kvsZ_put on (by rw [hsl]; exact hx1)]
    rfl
  · rintro Ms' As' ⟨rfl, X4, X5, X6, X7, X8, rfl⟩
    rw [List.length_zip, heldRows_len, Nat.min_self]
    have hsl : (slotsUp r o o.length).length = o.length := slotsUp_len r o o.length
    have e : PyData.tuple (natsD (slotsOf r o)) = .tuple (o.map fun n => PyData.int (lookN o (slotsUp r o o.length) n : Int)) := by
      have h := map_lookN on hsl
      show PyData.tuple (natsD (slotsUp r o o.length)) = _
      conv => lhs; rw [← h]
      unfold natsD
      rw [List.map_map] <;> rfl
    rw [e] at q
    refine go_ret (by exact q) (ev_tupleOf (el_map o (fun n : Nat => .int (n : Int)) (fun n => .int (lookN o (slotsUp r o o.length) n : Int)) (ei_tup (ev_var (by rfl))) (fun _ _ => tg_name) (fun n hn => ?_) (by omega) (by decide)).ev.ls)
    exact ev_dgetK (Ev.dko (ev_var (by rfl)) List.mem_cons_self) (ev_var (by rfl)) (kvsZ_look on (by rw [hsl, List.take_length]; exact hn))
end
end Rb
end
section
set_option Elab.async false
set_option linter.all false
set_option autoImplicit false
set_option maxRecDepth 100000
set_option maxHeartbeats 4000000
namespace Rb
open PySem PySem.Spec PyProof.Rows L2
section
variable {P : Program} {w : World} {K : PySem.W.Frag} {mg : Str → Option Value} {base : Heap}
/-! ### is_wood -/
abbrev sIsWood : Stmt := topS 28
abbrev nIsWood : List Str := ["row", "users", "number"]
theorem scIsWood : FnScope nIsWood ["row"] (defScope sIsWood) := ⟨rfl, rfl, rfl, by decide +kernel, rfl, by decide +kernel, by decide +kernel⟩
def spIsWood : Sp := fun vs H Q _ => ∃ (Ms : MS) (r : Row), r.Ok ∧ Pu Ms [dp (encR r)] (dp (.bool (isWood r))) vs H Q
theorem cal_is_wood (T : Txt K mg) (c_needed : C8.Cal P w K mg base 2 "needed" spNeeded []) (c_users_of : C8.Cal P w K mg base 3 "users_of" spUsersOf []) : C8.Cal P w K mg base 4 "is_wood" spIsWood [] := by
  refine mk_cal (x := "is_wood") (i := 28) (j := 16) T rfl scIsWood (fun _ _ _ _ _ _ us hl => match us, hl with | [_], _ => rfl) (fun vs H Q E h => ?_) (fun f cdv A outer s H vs Q E hr h => ?_)
  · obtain ⟨Ms, r, _, R, _, _, h, _⟩ := h
    exact (paired_len h).trans rfl
  obtain ⟨Ms, r, ok, R, wf, mu, ha, q⟩ := h
  refine ⟨_, (pss_cons (ps_set (i := 1) scIsWood.nd rfl (by first | exact Or.inl rfl | exact Or.inr rfl) (C8.pe_c c_users_of hr (by decide) rfl (pa_cons (pv 0) pa_nil)))
      (pss_one (ps_ret (pe_callB (k_all K rfl) (by rfl) T.b_all b_all (pa_cons (pe_lc (own := [("number", 2)]) rfl scIsWood.nd (k_pi_tup K (C8.pe_c c_needed hr (by decide) rfl (pa_cons (pv 0) pa_nil))) (blkOk_by (own := [("number", 2)]) (N := nIsWood) (sc := defScope sIsWood) (by decide +kernel)) (fun _ _ _ _ _ => (pg_name (i := 2) scIsWood.nd rfl (by first | exact Or.inl rfl | exact Or.inr rfl))) (fun _ _ _ _ _ => pts_nil) (fun _ _ _ _ _ => (pe_cmpR op_eq (pe_callB (k_len K) (by rfl) T.b_len b_len (pa_cons (pe_dget (hu_of hr) (pv 1) (pv 2) (fun _ _ => rfl)) pa_nil)) (pe_ifExp (pt_cmpR (k_in K) (pv 2) (pe_ix (k_ix_tup K) (pv 0) pe_int (fun _ _ => rfl)) (by rfl)) pe_int pe_int) (nomark _)))) pa_nil))))), ?_⟩
  refine go_start wf mu ha ?_
  have nl : (needed r).length ≤ 1000 := Nat.le_trans (needed_len r) ok.len
  refine go_seq (go_asg (ev_call (ea_cons (ev_var (by rfl)) ea_nil) (fun vs H Q h => ⟨_, r, ok, h⟩)) ?_)
  refine go_ret (by exact q) ((ev_all (bs := (needed r).map fun x => decide ((users r x).length = if x ∈ r.ends then 0 else 1)) ((el_map (needed r) (fun n : Nat => .int (n : Int)) (fun x => .bool (decide ((users r x).length = if x ∈ r.ends then 0 else 1))) (ei_tup (ev_needed ok (by rfl))) (fun _ _ => tg_name) (fun x hx => ?_) (by omega) (by decide)).to (by rw [List.map_map] <;> rfl)).ev).to (by rw [all_map]; rfl))
  refine (ev_eqi (j := ((if x ∈ r.ends then 0 else 1 : Nat) : Int)) (ev_len (ev_users (by rfl) (ev_var (by rfl)) hx).sqL) ?_).to ?_
  · by_cases h : x ∈ r.ends
    · rw [if_pos h]
      exact ev_ifT (et_B (ev_inN (ev_var (by rfl)) (ev_ends (by rfl)).sqT)) (by simp [h]) ev_int
    · rw [if_neg h]
      exact ev_ifF (et_B (ev_inN (ev_var (by rfl)) (ev_ends (by rfl)).sqT)) (by simp [h]) ev_int
  · rw [natsD_len]
    congr 1
    exact decide_eq_decide.mpr (by omega)
/-! ### needs_of -/
abbrev sNeedsOf : Stmt := topS 29
abbrev nNeedsOf : List Str := ["row", "found", "number", "some", "one", "at", "need"]
theorem scNeedsOf : FnScope nNeedsOf ["row"] (defScope sNeedsOf) := ⟨rfl, rfl, rfl, by decide +kernel, rfl, by decide +kernel, by decide +kernel⟩
def needsD (r : Row) (l : List Nat) : List (Int × PyData) := l.map fun x : Nat => ((x : Int), .int (needFn r x : Int))
def spNeedsOf : Sp := fun vs H Q _ => ∃ (Ms : MS) (r : Row), r.Ok ∧ Pu Ms [dp (encR r)] (dicK (needsD r (needed r))) vs H Q
theorem nI_map_nats {l : List Nat} {f : Nat → Nat} : (l.map fun y => PyData.int (f y : Int)) = intsD (nI (l.map f)) := by
  unfold intsD nI
  rw [List.map_map, List.map_map] <;> rfl
theorem el_stk {c : Kx} {Ms : MS} {As : AS} {i a b : Nat} {l : List Nat} (h : As[i]? = some (some (dp (.list (natsD l))))) (hne : l ≠ []) (hp : ∀ x ∈ l, 1 ≤ x) (hl : l.length ≤ 1000) (hab : a < As.length) (hbb : b < As.length) (ne : a ≠ b) :
    Ev c Ms As (tCB (rMax K) (tCons (tLc (iEnum K (tCons (tVar i) tNil)) (gTup K 2 (gCons (gName a) (gCons (gName b) gNil))) tYes (tOp (rI0 fun i j => .int (i + j)) (tVar b) (tVar a)) [a, b]) tNil)) (dp (.int (stk l : Int))) := by
  have hz := stk_zip l 0
  have e : enD (natsD l) = l.zipIdx.map fun p => PyData.tuple [.int (p.2 : Int), .int (p.1 : Int)] := enD_nats l
  refine ev_max (ns := nI ((l.zipIdx 0).map fun p => p.1 + p.2)) (k := (stk l : Int)) ((el_map (l.zipIdx) (fun p => PyData.tuple [.int (p.2 : Int), .int (p.1 : Int)]) (fun p => .int ((p.1 + p.2 : Nat) : Int)) ((ei_enum (ev_var h)).to e) (fun _ _ => tg_pair) (fun p hp => ?_) (by rw [List.length_zipIdx]; omega) (by simp)).to ?_).ev (mem_nI.mpr ⟨_, hz.2 hne hp, rfl⟩) ?_
  · have hA : (wipeA As [a, b]).length = As.length := by simp [wipeA]
    refine (ev_add (i := (p.1 : Int)) (j := (p.2 : Int)) (ev_var ?_) (ev_var ?_)).to (by rw [Int.natCast_add])
    · rw [List.getElem?_set_self (by rw [List.length_set, hA]; exact hbb)]
    · rw [List.getElem?_set_ne (Ne.symm ne), List.getElem?_set_self (by rw [hA]; exact hab)]
  · unfold nI intsD
    rw [List.map_map, List.map_map] <;> rfl
  · intro y hy
    obtain ⟨n, hn, rfl⟩ := mem_nI.mp hy
    have := hz.1 n hn
    omega
theorem setK_map_new {β : Type} {f : Nat → β} {l : List Nat} {x : Nat} (h : x ∉ l) : setK (l.map fun x : Nat => ((x : Int), f x)) (x : Int) (f x) = (l ++ [x]).map fun x : Nat => ((x : Int), f x) := by
  rw [setK_new, List.map_append]
  · rfl
  · intro z
    rw [List.map_map] at z
    obtain ⟨y, hy, e⟩ := List.mem_map.mp z
    have : (y : Int) = (x : Int) := e
    exact h (by rw [← show y = x by omega]; exact hy)
theorem nd_notin {r : Row} {i x : Nat} (hx : (needed r)[i]? = some x) : x ∉ (needed r).take i := fun z => by
  obtain ⟨j, hj, ej⟩ := List.getElem_of_mem z
  rw [List.length_take] at hj
  rw [List.getElem_take] at ej
  have h2 := List.getElem?_eq_some_iff.mp hx
  have := (List.getElem_inj (needed_nodup r)).mp (ej.trans h2.2.symm)
  omega
theorem nd_in_take {r : Row} (ok : r.Ok) {i x y : Nat} (hx : (needed r)[i]? = some x) (hy : y ∈ r.uses x) : y ∈ (needed r).take i := by
  obtain ⟨j, hj, e⟩ := nd_before hx (nd_use ok (List.mem_of_getElem? hx) hy) (ok.use hy)
  refine List.mem_of_getElem? (i := j) ?_
  rw [List.getElem?_take, if_pos hj]
  exact e
theorem cal_needs_of (T : Txt K mg) (c_steps_used : C8.Cal P w K mg base 1 "steps_used" spStepsUsed []) (c_needed : C8.Cal P w K mg base 2 "needed" spNeeded []) : C8.Cal P w K mg base 3 "needs_of" spNeedsOf [] := by
  refine mk_cal (x := "needs_of") (i := 29) (j := 17) T rfl scNeedsOf (fun _ _ _ _ _ _ us hl => match us, hl with | [_], _ => rfl) (fun vs H Q E h => ?_) (fun f cdv A outer s H vs Q E hr h => ?_)
  · obtain ⟨Ms, r, _, R, _, _, h, _⟩ := h
    exact (paired_len h).trans rfl
  obtain ⟨Ms, r, ok, R, wf, mu, ha, q⟩ := h
  refine ⟨_, (pss_cons (ps_set (i := 1) scNeedsOf.nd rfl (by first | exact Or.inl rfl | exact Or.inr rfl) pe_dnewK)
      (pss_cons (ps_for PassesOwn.never rfl (k_pi_tup K (C8.pe_c c_needed hr (by decide) rfl (pa_cons (pv 0) pa_nil))) (pg_name (i := 2) scNeedsOf.nd rfl (by first | exact Or.inl rfl | exact Or.inr rfl))
      (pss_cons (ps_set (i := 3) scNeedsOf.nd rfl (by first | exact Or.inl rfl | exact Or.inr rfl) (pe_sortedRev K (by rfl) T.b_sorted (pe_lc (own := [("one", 4)]) rfl scNeedsOf.nd (k_pi_list K (pe_sortedSet K rfl (by rfl) T.b_sorted (by rfl) T.b_set (C8.pe_c c_steps_used hr (by decide) rfl (pa_cons (pe_ix (k_ix_tup K) (pe_ix (k_ix_tup K) (pv 0) pe_int (fun _ _ => rfl)) (pv 2) (fun _ _ => rfl)) pa_nil)))) (blkOk_by (own := [("one", 4)]) (N := nNeedsOf) (sc := defScope sNeedsOf) (by decide +kernel)) (fun _ _ _ _ _ => (pg_name (i := 4) scNeedsOf.nd rfl (by first | exact Or.inl rfl | exact Or.inr rfl))) (fun _ _ _ _ _ => pts_nil) (fun _ _ _ _ _ => (pe_dget (hu_of hr) (pv 1) (pv 4) (fun _ _ => rfl))))))
      (pss_one (ps_dput (hu_of hr) (pv 1) (pv 2) (pe_ifExp (pt_cmpR (k_neD K hr.units) (pv 3) (pe_lst pa_nil) (nomark _)) (pe_callB (k_max K rfl) (by rfl) T.b_max b_max (pa_cons (pe_lc (own := [("at", 5), ("need", 6)]) rfl scNeedsOf.nd (k_enum K (by rfl) T.b_enumerate (pa_cons (pv 3) pa_nil)) (blkOk_by (own := [("at", 5), ("need", 6)]) (N := nNeedsOf) (sc := defScope sNeedsOf) (by decide +kernel)) (fun _ _ _ _ _ => (k_pg_tup K (n := 2) rfl (pgs_cons (pg_name (i := 5) scNeedsOf.nd rfl (by first | exact Or.inl rfl | exact Or.inr rfl)) (pgs_cons (pg_name (i := 6) scNeedsOf.nd rfl (by first | exact Or.inl rfl | exact Or.inr rfl)) pgs_nil)))) (fun _ _ _ _ _ => pts_nil) (fun _ _ _ _ _ => (pe_op op_add (pv 6) (pv 5)))) pa_nil)) pe_int) rfl))))
      (pss_one (ps_ret (pv 1))))), ?_⟩
  refine go_start wf mu ha ?_
  have nl : (needed r).length ≤ 1000 := Nat.le_trans (needed_len r) ok.len
  refine go_seq (go_own en_dK fun p h0 => ?_)
  refine go_seq (go_forE (needed r) (fun n : Nat => .int (n : Int)) (ei_tup (ev_needed ok (by rfl)))
    (fun i Ms' As' => Ms' = (p, .dK (needsD r ((needed r).take i))) :: Ms ∧ ∃ X2 X3 X4 X5 X6, As' = [some (dp (encR r)), some (valA (.ref p)), X2, X3, X4, X5, X6]) ⟨rfl, _, _, _, _, _, rfl⟩ ?_ ?_)
  · rintro Rb hb i x Ms' As' hx ⟨rfl, X2, X3, X4, X5, X6, rfl⟩
    have hxn : x ∈ needed r := List.mem_of_getElem? hx
    have kl := kids_len r x
    have sl : (sortD ((kids r x).map (needFn r))).length = (kids r x).length := by rw [(sortD_perm _).length_eq, List.length_map]
    refine go_seq (go_asg ((el_sortedRev (ns := nI ((kids r x).map (needFn r))) (ms := nI (sortD ((kids r x).map (needFn r)))) ((el_map (kids r x) (fun n : Nat => .int (n : Int)) (fun y => .int (needFn r y : Int)) (ei_list (el_kids (by rfl) (ev_var (by rfl)) (nd_lt hxn)).ev) (fun _ _ => tg_name) (fun y hy => ?_) (by omega) (by decide)).to nI_map_nats).ev.ls ((sortD_perm _).map _) ?_).ev.to (by rw [← natsD_nI])) ?_)
    · exact ev_dgetK (Ev.dko (ev_var (by rfl)) List.mem_cons_self) (ev_var (by rfl)) (getK_map (fun y => PyData.int (needFn r y : Int)) (nd_in_take ok hx (mem_kids.mp hy)))
    · exact List.pairwise_map.mpr ((sortD_fall _).imp fun h => by omega)
    have ev : PyData.int (needFn r x : Int) = .int (comb ((kids r x).map (needFn r)) : Int) := by rw [need_eq ok hxn]
    dsimp only
    refine go_dputK 0 (d := .int (needFn r x : Int)) ?_ (ev_var (by rfl)) (ev_var (by rfl)) (by rfl) h0 (by unfold needsD; rw [List.length_map, List.length_take]; omega) (go_inv ⟨?_, _, _, _, _, _, rfl⟩)
    · rw [ev]
      unfold comb
      by_cases hk : (kids r x).map (needFn r) = []
      · rw [if_pos hk]
        refine ev_ifF (et_test (ev_neD ((ev_var (by rfl)).to (by rw [natsD_nI])) (el_lst0.ev) (shaped_lst _) (shaped_lst []))) ?_ ev_int
        rw [show PyData.eqv (.list (intsD (nI (sortD ((kids r x).map (needFn r)))))) (.list []) = _ from eqv_lst _ [], hk, show sortD [] = [] from List.length_eq_zero_iff.mp (sortD_perm []).length_eq]
        rfl
      · rw [if_neg hk]
        have hs : sortD ((kids r x).map (needFn r)) ≠ [] := fun z => hk (by
          have := (sortD_perm ((kids r x).map (needFn r))).length_eq
          rw [z] at this
          exact List.length_eq_zero_iff.mp this.symm)
        refine ev_ifT (et_test (ev_neD ((ev_var (by rfl)).to (by rw [natsD_nI])) (el_lst0.ev) (shaped_lst _) (shaped_lst []))) ?_ (el_stk (by rfl) hs ?_ (by omega) (by simp) (by simp) (by decide))
        · rw [show PyData.eqv (.list (intsD (nI (sortD ((kids r x).map (needFn r)))))) (.list []) = _ from eqv_lst _ []]
          have : nI (sortD ((kids r x).map (needFn r))) ≠ [] := fun z => hs (by
            have := congrArg List.length z
            rw [nI_len] at this
            exact List.length_eq_zero_iff.mp this)
          simp [this]
        · intro z hz
          obtain ⟨y, hy, rfl⟩ := List.mem_map.mp ((sortD_perm _).mem_iff.mp hz)
          exact need_pos ok (nd_use ok hxn (mem_kids.mp hy))
    · rw [take_snoc hx]
      show (p, Mc.dK (setK (needsD r ((needed r).take i)) (x : Int) (.int (needFn r x : Int)))) :: Ms = _
      unfold needsD
      rw [setK_map_new (f := fun x => PyData.int (needFn r x : Int)) (nd_notin hx)]
  · rintro Ms' As' ⟨rfl, X2, X3, X4, X5, X6, rfl⟩
    rw [List.take_length]
    exact go_frz (i := 1) (by rfl) h0 (go_ret (by exact q) (ev_var (by rfl)))
end
end Rb
end
section
set_option Elab.async false
set_option linter.all false
set_option autoImplicit false
set_option maxRecDepth 100000
set_option maxHeartbeats 4000000
namespace Rb
open PySem PySem.Spec PyProof.Rows L2
section
variable {P : Program} {w : World} {K : PySem.W.Frag} {mg : Str → Option Value} {base : Heap}
section
variable {c : Kx} {Ms : MS} {As : AS} {te ta : TE}
theorem EvLX.to {Pp : List PyData → Prop} {ds : List PyData} (h : EvLX c Ms As te Pp) (k : ∀ es, Pp es → es = ds) : EvL c Ms As te ds := fun σ H R s Q q =>
  h σ H R s Q fun p vs es H' R' hP g h0 h1 h2 h3 => by
    have e := k es hP
    subst e
    exact q p vs H' R' g h0 h1 h2 h3
/-- pairs (0 - need, number), sorted -/
theorem el_byNeed {f : Nat → Nat} {l : List Nat} {Ms' : MS} (h : Ev c Ms As ta (lsA Ms' (l.map fun y => PyData.tuple [.int (0 - (f y : Int)), .int (y : Int)]))) (hs : Ms' ⊆ Ms := by first | exact List.nil_subset _ | exact List.Subset.refl _ | simp) :
    EvL c Ms As (tCB (rSortedPO K) (tCons ta tNil)) ((ordBy f l).map fun y => PyData.tuple [.int (0 - (f y : Int)), .int (y : Int)]) := by
  have e : ∀ l : List Nat, (l.map fun y => PyData.tuple [.int (0 - (f y : Int)), .int (y : Int)]) = (l.map fun y => ((0 - (f y : Int)), (y : Int))).map prD := fun l => by
    rw [List.map_map] <;> rfl
  rw [e] at h ⊢
  refine (elx_sortedPrs h hs).to ?_
  rintro es ⟨ps, h1, h2, rfl⟩
  congr 1
  refine (h1.trans ((ordBy_perm f l).symm.map _)).eq_of_pairwise (le := fun x y : Int × Int => x.1 < y.1 ∨ (x.1 = y.1 ∧ x.2 ≤ y.2)) (fun x y _ _ a b => ?_) h2 (List.pairwise_map.mpr ((ordBy_sorted f l).imp fun h => ?_))
  · refine Prod.ext ?_ ?_ <;> omega
  · show 0 - (f _ : Int) < 0 - (f _ : Int) ∨ _
    dsimp only
    omega
end
/-! ### tree_order, wood_order -/
abbrev sTreeOrder : Stmt := topS 30
abbrev nTreeOrder : List Str := ["row", "needs", "number", "some", "found", "need", "one"]
theorem scTreeOrder : FnScope nTreeOrder ["row", "needs", "number"] (defScope sTreeOrder) := ⟨rfl, rfl, rfl, by decide +kernel, rfl, by decide +kernel, by decide +kernel⟩
def spTree (n : Nat) : Sp := fun vs H Q _ => ∃ (Ms : MS) (r : Row) (x : Nat), r.Ok ∧ r.steps.length ≤ 25 ∧ Wood r ∧ x ∈ needed r ∧ x < n ∧ Pu Ms [dp (encR r), dicK (needsD r (needed r)), dp (.int (x : Int))] (dp (.list (natsD (treeF r n x)))) vs H Q
theorem ev_need {c : Kx} {Ms : MS} {As : AS} {te : TE} {r : Row} {i x : Nat} (h : As[i]? = some (some (dicK (needsD r (needed r))))) (h2 : Ev c Ms As te (dp (.int (x : Int)))) (hx : x ∈ needed r) : Ev c Ms As (tDGet (tVar i) te) (dp (.int (needFn r x : Int))) :=
  ev_dgetK (ev_var h).dk h2 (getK_map (fun x => PyData.int (needFn r x : Int)) hx)
theorem natsD_flat_snoc {l : List Nat} {f : Nat → List Nat} {j y : Nat} (h : l[j]? = some y) : natsD ((l.take (j + 1)).flatMap f) = natsD ((l.take j).flatMap f) ++ natsD (f y) := by
  rw [take_snoc h, List.flatMap_append, natsD_app]
  simp
theorem take_flat_len {l : List Nat} {f : Nat → List Nat} (j : Nat) : ((l.take j).flatMap f).length ≤ (l.flatMap f).length := by
  conv => rhs; rw [← List.take_append_drop j l, List.flatMap_append, List.length_append]
  omega
theorem cal_tree_order (T : Txt K mg) (c_steps_used : C8.Cal P w K mg base 1 "steps_used" spStepsUsed []) : ∀ n, C8.Cal P w K mg base (n + 1) "tree_order" (spTree n) []
  | 0 => by
    refine mk_cal (x := "tree_order") (i := 30) (j := 18) T rfl scTreeOrder (fun _ _ _ _ _ _ us hl => match us, hl with | [_, _, _], _ => rfl) (fun vs H Q E h => ?_) (fun f cdv A outer s H vs Q E hr h => ?_)
    · obtain ⟨Ms, r, x, _, _, _, _, hx, _⟩ := h
      exact absurd hx (by omega)
    · obtain ⟨Ms, r, x, _, _, _, _, hx, _⟩ := h
      exact absurd hx (by omega)
  | n + 1 => by
    have c_tree_order : C8.Cal P w K mg base (n + 1) "tree_order" (spTree n) [] := cal_tree_order T c_steps_used n
    refine mk_cal (x := "tree_order") (i := 30) (j := 18) T rfl scTreeOrder (fun _ _ _ _ _ _ us hl => match us, hl with | [_, _, _], _ => rfl) (fun vs H Q E h => ?_) (fun f cdv A outer s H vs Q E hr h => ?_)
    · obtain ⟨Ms, r, x, _, _, _, _, _, R, _, _, h, _⟩ := h
      exact (paired_len h).trans rfl
    obtain ⟨Ms, r, x, ok, sl, wd, hx, hn, R, wf, mu, ha, q⟩ := h
    refine ⟨_, (pss_cons (ps_set (i := 3) scTreeOrder.nd rfl (by first | exact Or.inl rfl | exact Or.inr rfl) (pe_callB (k_sortedPO K) (by rfl) T.b_sorted b_sorted (pa_cons (pe_lc (own := [("one", 6)]) rfl scTreeOrder.nd (k_pi_list K (pe_sortedSet K rfl (by rfl) T.b_sorted (by rfl) T.b_set (C8.pe_c c_steps_used hr (by omega) rfl (pa_cons (pe_ix (k_ix_tup K) (pe_ix (k_ix_tup K) (pv 0) pe_int (fun _ _ => rfl)) (pv 2) (fun _ _ => rfl)) pa_nil)))) (blkOk_by (own := [("one", 6)]) (N := nTreeOrder) (sc := defScope sTreeOrder) (by decide +kernel)) (fun _ _ _ _ _ => (pg_name (i := 6) scTreeOrder.nd rfl (by first | exact Or.inl rfl | exact Or.inr rfl))) (fun _ _ _ _ _ => pts_nil) (fun _ _ _ _ _ => (pe_tup (pa_cons (pe_op op_sub pe_int (pe_dget (hu_of hr) (pv 1) (pv 6) (fun _ _ => rfl))) (pa_cons (pv 6) pa_nil))))) pa_nil)))
      (pss_cons (ps_set (i := 4) scTreeOrder.nd rfl (by first | exact Or.inl rfl | exact Or.inr rfl) (pe_lst pa_nil))
      (pss_cons (ps_for PassesOwn.never rfl (k_pi_list K (pv 3)) (k_pg_tup K (n := 2) rfl (pgs_cons (pg_name (i := 5) scTreeOrder.nd rfl (by first | exact Or.inl rfl | exact Or.inr rfl)) (pgs_cons (pg_name (i := 6) scTreeOrder.nd rfl (by first | exact Or.inl rfl | exact Or.inr rfl)) pgs_nil)))
      (pss_one (ps_set (i := 4) scTreeOrder.nd rfl (by first | exact Or.inl rfl | exact Or.inr rfl) (pe_op op_cat (pv 4) (C8.pe_c c_tree_order hr (by omega) rfl (pa_cons (pv 0) (pa_cons (pv 1) (pa_cons (pv 6) pa_nil))))))))
      (pss_one (ps_ret (pe_op op_cat (pv 4) (pe_lst (pa_cons (pv 2) pa_nil)))))))), ?_⟩
    refine go_start wf mu ha ?_
    have kl := kids_len r x
    have tl := treeF_len ok wd (n := n + 1) hx
    have nl : (needed r).length ≤ 25 := Nat.le_trans (needed_len r) sl
    have et : treeF r (n + 1) x = (ordBy (needFn r) (kids r x)).flatMap (treeF r n) ++ [x] := rfl
    rw [et, List.length_append] at tl
    refine go_seq (go_asg (el_byNeed (f := needFn r) (l := kids r x) (el_map (kids r x) (fun n : Nat => .int (n : Int)) (fun y : Nat => PyData.tuple [.int (0 - (needFn r y : Int)), .int (y : Int)]) (ei_list (el_kids (by rfl) (ev_var (by rfl)) (nd_lt hx)).ev) (fun _ _ => tg_name)
      (fun y hy => ev_tup2 (ev_sub ev_int (ev_need (by rfl) (ev_var (by rfl)) (nd_use ok hx (mem_kids.mp hy)))) (ev_var (by rfl))) (by omega) (by decide)).ev.ls).ev ?_)
    refine go_seq (go_asg el_lst0.ev ?_)
    refine go_seq (go_for2 (ordBy (needFn r) (kids r x)) (fun y => .int (0 - (needFn r y : Int))) (fun y => .int (y : Int)) (ei_list (ev_var (by rfl)))
      (fun j Ms' As' => Ms' = Ms ∧ ∃ X3 X5 X6, As' = [some (dp (encR r)), some (dicK (needsD r (needed r))), some (dp (.int (x : Int))), X3, some (dp (.list (natsD (((ordBy (needFn r) (kids r x)).take j).flatMap (treeF r n))))), X5, X6]) ⟨rfl, _, _, _, rfl⟩ ?_ ?_)
    · rintro Rb hb j y Ms' As' hy ⟨rfl, X3, X5, X6, rfl⟩
      have hyk := mem_kids.mp (mem_ordBy.mp (List.mem_of_getElem? hy))
      have hyx := ok.use hyk
      have hyn := nd_use ok hx hyk
      have hl1 := take_flat_len (l := ordBy (needFn r) (kids r x)) (f := treeF r n) j
      have hl2 := treeF_len ok wd (n := n) hyn
      dsimp only
      refine go_asg ((el_cat (ev_var (by rfl)).ls (ev_call (ea_cons (ev_var (by rfl)) (ea_cons (ev_var (by rfl)) (ea_cons (ev_var (by rfl)) ea_nil))) (fun vs H Q h => ⟨_, r, y, ok, sl, wd, hyn, by omega, h⟩)).ls (by rw [natsD_len, natsD_len]; omega)).ev.to (congrArg PyData.list (natsD_flat_snoc (f := treeF r n) hy).symm)) (go_inv ⟨rfl, _, _, _, rfl⟩)
    · rintro Ms' As' ⟨rfl, X3, X5, X6, rfl⟩
      rw [List.take_length]
      rw [et] at q
      refine go_ret (by exact q) ((el_cat (ev_var (by rfl)).ls (el_lst1 (ev_var (by rfl))).ev.ls (by rw [natsD_len, List.length_singleton]; omega)).ev.to ?_)
      rw [natsD_app]
      rfl
abbrev sWoodOrder : Stmt := topS 31
abbrev nWoodOrder : List Str := ["row", "needs", "found", "need", "number", "end"]
theorem scWoodOrder : FnScope nWoodOrder ["row", "needs"] (defScope sWoodOrder) := ⟨rfl, rfl, rfl, by decide +kernel, rfl, by decide +kernel, by decide +kernel⟩
def spWoodOrder : Sp := fun vs H Q _ => ∃ (Ms : MS) (r : Row), r.Ok ∧ r.steps.length ≤ 25 ∧ r.ends.length ≤ 60 ∧ Wood r ∧ Pu Ms [dp (encR r), dicK (needsD r (needed r))] (dp (.tuple (natsD (woodOrd r 25)))) vs H Q
theorem el_roots {c : Kx} {Ms : MS} {As : AS} {r : Row} {i : Nat} (h : As[i]? = some (some (dp (encR r)))) (hl : r.ends.length ≤ 60) : EvL c Ms As (tSortedSet K (tOp (rIxT K) (tVar i) (tC (.int 2)))) (natsD (roots r)) := el_setN (ev_ends h) (by omega)
theorem roots_len (r : Row) : (roots r).length ≤ r.ends.length := setN_len _
theorem cal_wood_order (T : Txt K mg) (c_tree_order : C8.Cal P w K mg base 26 "tree_order" (spTree 25) []) : C8.Cal P w K mg base 27 "wood_order" spWoodOrder [] := by
  refine mk_cal (x := "wood_order") (i := 31) (j := 19) T rfl scWoodOrder (fun _ _ _ _ _ _ us hl => match us, hl with | [_, _], _ => rfl) (fun vs H Q E h => ?_) (fun f cdv A outer s H vs Q E hr h => ?_)
  · obtain ⟨Ms, r, _, _, _, _, R, _, _, h, _⟩ := h
    exact (paired_len h).trans rfl
  obtain ⟨Ms, r, ok, sl, el, wd, R, wf, mu, ha, q⟩ := h
  refine ⟨_, (pss_cons (ps_set (i := 2) scWoodOrder.nd rfl (by first | exact Or.inl rfl | exact Or.inr rfl) (pe_lst pa_nil))
      (pss_cons (ps_for PassesOwn.never rfl (k_pi_list K (pe_callB (k_sortedPO K) (by rfl) T.b_sorted b_sorted (pa_cons (pe_lc (own := [("end", 5)]) rfl scWoodOrder.nd (k_pi_list K (pe_sortedSet K rfl (by rfl) T.b_sorted (by rfl) T.b_set (pe_ix (k_ix_tup K) (pv 0) pe_int (fun _ _ => rfl)))) (blkOk_by (own := [("end", 5)]) (N := nWoodOrder) (sc := defScope sWoodOrder) (by decide +kernel)) (fun _ _ _ _ _ => (pg_name (i := 5) scWoodOrder.nd rfl (by first | exact Or.inl rfl | exact Or.inr rfl))) (fun _ _ _ _ _ => pts_nil) (fun _ _ _ _ _ => (pe_tup (pa_cons (pe_op op_sub pe_int (pe_dget (hu_of hr) (pv 1) (pv 5) (fun _ _ => rfl))) (pa_cons (pv 5) pa_nil))))) pa_nil))) (k_pg_tup K (n := 2) rfl (pgs_cons (pg_name (i := 3) scWoodOrder.nd rfl (by first | exact Or.inl rfl | exact Or.inr rfl)) (pgs_cons (pg_name (i := 4) scWoodOrder.nd rfl (by first | exact Or.inl rfl | exact Or.inr rfl)) pgs_nil)))
      (pss_one (ps_set (i := 2) scWoodOrder.nd rfl (by first | exact Or.inl rfl | exact Or.inr rfl) (pe_op op_cat (pv 2) (C8.pe_c c_tree_order hr (by decide) rfl (pa_cons (pv 0) (pa_cons (pv 1) (pa_cons (pv 4) pa_nil))))))))
      (pss_one (ps_ret (pe_callTy (k_tupof K) (by rfl) T.b_tuple b_tuple (pa_cons (pv 2) pa_nil)))))), ?_⟩
  refine go_start wf mu ha ?_
  have nl : (needed r).length ≤ 25 := Nat.le_trans (needed_len r) sl
  have rl := roots_len r
  have wl : (woodOrd r 25).length ≤ 25 := by rw [(woodOrd_ord ok wd sl).len]; exact nl
  refine go_seq (go_asg el_lst0.ev ?_)
  refine go_seq (go_for2 (ordBy (needFn r) (roots r)) (fun y => .int (0 - (needFn r y : Int))) (fun y => .int (y : Int)) (ei_list (el_byNeed (f := needFn r) (l := roots r) (el_map (roots r) (fun n : Nat => .int (n : Int)) (fun y : Nat => PyData.tuple [.int (0 - (needFn r y : Int)), .int (y : Int)]) (ei_list (el_roots (by rfl) el).ev) (fun _ _ => tg_name)
      (fun y hy => ev_tup2 (ev_sub ev_int (ev_need (by rfl) (ev_var (by rfl)) (nd_end ok (mem_setN.mp hy)))) (ev_var (by rfl))) (by omega) (by decide)).ev.ls).ev)
    (fun j Ms' As' => Ms' = Ms ∧ ∃ X3 X4 X5, As' = [some (dp (encR r)), some (dicK (needsD r (needed r))), some (dp (.list (natsD (((ordBy (needFn r) (roots r)).take j).flatMap (treeF r 25))))), X3, X4, X5]) ⟨rfl, _, _, _, rfl⟩ ?_ ?_)
  · rintro Rb hb j y Ms' As' hy ⟨rfl, X3, X4, X5, rfl⟩
    have hyn := nd_end ok (mem_setN.mp (mem_ordBy.mp (List.mem_of_getElem? hy)))
    have hl1 := take_flat_len (l := ordBy (needFn r) (roots r)) (f := treeF r 25) j
    have hl0 : (woodOrd r 25).length = ((ordBy (needFn r) (roots r)).flatMap (treeF r 25)).length := rfl
    have hl2 := treeF_len ok wd (n := 25) hyn
    have hl3 := nd_lt hyn
    dsimp only
    refine go_asg ((el_cat (ev_var (by rfl)).ls (ev_call (ea_cons (ev_var (by rfl)) (ea_cons (ev_var (by rfl)) (ea_cons (ev_var (by rfl)) ea_nil))) (fun vs H Q h => ⟨_, r, y, ok, sl, wd, hyn, by omega, h⟩)).ls (by rw [natsD_len, natsD_len]; omega)).ev.to (congrArg PyData.list (natsD_flat_snoc (f := treeF r 25) hy).symm)) (go_inv ⟨rfl, _, _, _, rfl⟩)
  · rintro Ms' As' ⟨rfl, X3, X4, X5, rfl⟩
    rw [List.take_length]
    exact go_ret (by exact q) (ev_tupleOf (ev_var (by rfl)).ls)
/-! ### require_few, last_ones, without -/
abbrev sRequireFew : Stmt := topS 32
abbrev nRequireFew : List Str := ["row"]
theorem scRequireFew : FnScope nRequireFew ["row"] (defScope sRequireFew) := ⟨rfl, rfl, rfl, by decide +kernel, rfl, by decide +kernel, by decide +kernel⟩
def spRequireFew : Sp := fun vs H Q _ => ∃ (Ms : MS) (r : Row), r.Ok ∧ (needed r).length ≤ 12 ∧ Pu Ms [dp (encR r)] (dp .none) vs H Q
theorem cal_require_few (T : Txt K mg) (c_needed : C8.Cal P w K mg base 2 "needed" spNeeded []) : C8.Cal P w K mg base 3 "require_few" spRequireFew [] := by
  refine mk_cal (x := "require_few") (i := 32) (j := 20) T rfl scRequireFew (fun _ _ _ _ _ _ us hl => match us, hl with | [_], _ => rfl) (fun vs H Q E h => ?_) (fun f cdv A outer s H vs Q E hr h => ?_)
  · obtain ⟨Ms, r, _, _, R, _, _, h, _⟩ := h
    exact (paired_len h).trans rfl
  obtain ⟨Ms, r, ok, nl, R, wf, mu, ha, q⟩ := h
  refine ⟨_, (pss_one (ps_if (pt_cmpR op_gt (pe_callB (k_len K) (by rfl) T.b_len b_len (pa_cons (C8.pe_c c_needed hr (by decide) rfl (pa_cons (pv 0) pa_nil)) pa_nil)) (C8.pe_gc rfl T.k_MAX_HELD) (nomark _)) (pss_one ps_never) pss_nil)), ?_⟩
  refine go_start wf mu ha ?_
  refine go_ifF (et_B (ev_gt (ev_len (ev_needed ok (by rfl)).sqT) ev_int)) ?_ (go_next ?_)
  · rw [natsD_len]
    simp
    omega
  · exact fun σ H' R' g s => q _ H' R' g .non
abbrev sLastOnes : Stmt := topS 34
abbrev nLastOnes : List Str := ["row", "users", "lot", "number", "user"]
theorem scLastOnes : FnScope nLastOnes ["row", "users", "lot"] (defScope sLastOnes) := ⟨rfl, rfl, rfl, by decide +kernel, rfl, by decide +kernel, by decide +kernel⟩
def spLastOnes : Sp := fun vs H Q _ => ∃ (Ms : MS) (r : Row) (l : List Nat), r.Ok ∧ l.length ≤ 1000 ∧ (∀ x ∈ l, x ∈ needed r) ∧ Pu Ms [dp (encR r), dicK (usersD r), dp (.tuple (natsD l))] (dp (.list (natsD (lastOnes r l)))) vs H Q
theorem cal_last_ones (T : Txt K mg) : C8.Cal P w K mg base 1 "last_ones" spLastOnes [] := by
  refine mk_cal (x := "last_ones") (i := 34) (j := 22) T rfl scLastOnes (fun _ _ _ _ _ _ us hl => match us, hl with | [_, _, _], _ => rfl) (fun vs H Q E h => ?_) (fun f cdv A outer s H vs Q E hr h => ?_)
  · obtain ⟨Ms, r, l, _, _, _, R, _, _, h, _⟩ := h
    exact (paired_len h).trans rfl
  obtain ⟨Ms, r, l, ok, ll, hs, R, wf, mu, ha, q⟩ := h
  refine ⟨_, (pss_one (ps_ret (pe_lc (own := [("number", 3)]) rfl scLastOnes.nd (k_pi_tup K (pv 2)) (blkOk_by (own := [("number", 3)]) (N := nLastOnes) (sc := defScope sLastOnes) (by decide +kernel)) (fun _ _ _ _ _ => (pg_name (i := 3) scLastOnes.nd rfl (by first | exact Or.inl rfl | exact Or.inr rfl))) (fun _ _ _ _ _ => (pts_one (pt_not (pt_val (pe_callB (k_any K rfl) (by rfl) T.b_any b_any (pa_cons (pe_lc (own := [("user", 4)]) rfl scLastOnes.nd (k_pi_list K (pe_dget (hu_of hr) (pv 1) (pv 3) (fun _ _ => rfl))) (blkOk_by (own := [("user", 4)]) (by rfl)) (fun _ _ _ _ _ => (pg_name (i := 4) scLastOnes.nd rfl (by first | exact Or.inl rfl | exact Or.inr rfl))) (fun _ _ _ _ _ => pts_nil) (fun _ _ _ _ _ => (pe_cmpR (k_in K) (pv 4) (pv 2) (by rfl)))) pa_nil)))))) (fun _ _ _ _ _ => (pv 3))))), ?_⟩
  refine go_start wf mu ha ?_
  refine go_ret (by exact q) (el_lc l (fun n : Nat => .int (n : Int)) (fun x => !((users r x).any fun y => decide (y ∈ l))) (fun n : Nat => .int (n : Int)) (ei_tup (ev_var (by rfl))) (fun _ _ => tg_name) (fun x hx => et_not ((et_test (ev_any (bs := (users r x).map fun y => decide (y ∈ l)) ((el_map (users r x) (fun n : Nat => .int (n : Int)) (fun y => .bool (decide (y ∈ l))) (ei_list (ev_users (by rfl) (ev_var (by rfl)) (hs x hx))) (fun _ _ => tg_name)
    (fun y hy => ev_inN (ev_var (by rfl)) (ev_var (by rfl)).sqT) (by have := users_len ok x; omega) (by decide)).to (by rw [List.map_map] <;> rfl)).ev)).to (any_map' _ _))) (fun x hx _ => ev_var (by rfl)) (by omega) (by decide)).ev
abbrev sWithout : Stmt := topS 35
abbrev nWithout : List Str := ["lot", "number", "one"]
theorem scWithout : FnScope nWithout ["lot", "number"] (defScope sWithout) := ⟨rfl, rfl, rfl, by decide +kernel, rfl, by decide +kernel, by decide +kernel⟩
def spWithout : Sp := fun vs H Q _ => ∃ (Ms : MS) (l : List Nat) (x : Nat), l.length ≤ 1000 ∧ Pu Ms [dp (.tuple (natsD l)), dp (.int (x : Int))] (dp (.tuple (natsD (without l x)))) vs H Q
theorem cal_without (T : Txt K mg) : C8.Cal P w K mg base 1 "without" spWithout [] := by
  refine mk_cal (x := "without") (i := 35) (j := 23) T rfl scWithout (fun _ _ _ _ _ _ us hl => match us, hl with | [_, _], _ => rfl) (fun vs H Q E h => ?_) (fun f cdv A outer s H vs Q E hr h => ?_)
  · obtain ⟨Ms, l, x, _, R, _, _, h, _⟩ := h
    exact (paired_len h).trans rfl
  obtain ⟨Ms, l, x, ll, R, wf, mu, ha, q⟩ := h
  refine ⟨_, (pss_one (ps_ret (pe_callTy (k_tupof K) (by rfl) T.b_tuple b_tuple (pa_cons (pe_lc (own := [("one", 2)]) rfl scWithout.nd (k_pi_tup K (pv 0)) (blkOk_by (own := [("one", 2)]) (N := nWithout) (sc := defScope sWithout) (by decide +kernel)) (fun _ _ _ _ _ => (pg_name (i := 2) scWithout.nd rfl (by first | exact Or.inl rfl | exact Or.inr rfl))) (fun _ _ _ _ _ => (pts_one (pt_cmpR op_ne (pv 2) (pv 1) (nomark _)))) (fun _ _ _ _ _ => (pv 2))) pa_nil)))), ?_⟩
  refine go_start wf mu ha ?_
  refine go_ret (by exact q) (ev_tupleOf (el_lc l (fun n : Nat => .int (n : Int)) (fun y => !decide (y = x)) (fun n : Nat => .int (n : Int)) (ei_tup (ev_var (by rfl))) (fun _ _ => tg_name) (fun y hy => (et_B (ev_nei (ev_var (by rfl)) (ev_var (by rfl)))).to ?_) (fun y hy _ => ev_var (by rfl)) (by omega) (by decide)).ev.ls)
  congr 1
  exact decide_eq_decide.mpr (by omega)
end
end Rb
end
section
set_option Elab.async false
set_option linter.all false
set_option autoImplicit false
set_option maxRecDepth 100000
set_option maxHeartbeats 4000000
namespace Rb
open PySem PySem.Spec PyProof.Rows L2
def tupN (l : List Nat) : PyData := .tuple (natsD l)
theorem shaped_tups (L : List (List Nat)) : SeqAt.shaped (.list (L.map tupN)) = true := by
  unfold SeqAt.shaped
  have h1 : ∀ l : List Nat, (tupN l).canLay0 = true ∧ (tupN l).depth = 1 := fun l => by
    have h := shaped_tup (nI l)
    rw [← natsD_nI] at h
    unfold SeqAt.shaped at h
    refine ⟨(Bool.and_eq_true_iff.mp h).1, ?_⟩
    unfold tupN
    rw [natsD_nI]
    simp only [PyData.depth, depth_ints]
  have k1 : ∀ L : List (List Nat), PyData.canLayAll0 (L.map tupN) = true := by
    intro L
    induction L with
    | nil => rfl
    | cons l L ih => rw [List.map_cons]; simp only [PyData.canLayAll0, (h1 l).1, ih]; rfl
  have k2 : ∀ L : List (List Nat), PyData.depthAll (L.map tupN) ≤ 1 := by
    intro L
    induction L with
    | nil => simp [PyData.depthAll]
    | cons l L ih => rw [List.map_cons]; simp only [PyData.depthAll, (h1 l).2]; omega
  rw [Bool.and_eq_true, decide_eq_true_eq]
  refine ⟨by simp only [PyData.canLay0]; exact k1 L, ?_⟩
  simp only [PyData.depth]
  have := k2 L
  omega
theorem eqv_nil (ds : List PyData) : PyData.eqv (.list ds) (.list []) = ds.isEmpty := by
  cases ds <;> simp [PyData.eqv, PyData.eqvAll]
section
variable {P : Program} {w : World} {K : PySem.W.Frag} {mg : Str → Option Value} {base : Heap}
/-! ### lots_of -/
abbrev sLotsOf : Stmt := topS 33
abbrev nLotsOf : List Str := ["row", "found", "now", "later", "lot", "number", "one"]
theorem scLotsOf : FnScope nLotsOf ["row"] (defScope sLotsOf) := ⟨rfl, rfl, rfl, by decide +kernel, rfl, by decide +kernel, by decide +kernel⟩
def lotsA (r : Row) : Asr := exA (LotsOk r) fun L => dp (.list (L.map tupN))
def spLotsOf : Sp := fun vs H Q _ => ∃ (Ms : MS) (r : Row), r.Ok ∧ (needed r).length ≤ 12 ∧ Pu Ms [dp (encR r)] (lotsA r) vs H Q
def keyD (m : List Nat) : List Int × PyData := (nI m, .bool true)
theorem setK_keys {D : List (List Nat)} {m : List Nat} : setK (D.map keyD) (nI m) (.bool true) = (if m ∈ D then D else D ++ [m]).map keyD := by
  have e : ((D.map keyD).any fun kv => decide (kv.1 = nI m)) = decide (m ∈ D) := by
    rw [List.any_map]
    by_cases h : m ∈ D
    · rw [decide_eq_true h, List.any_eq_true]
      exact ⟨m, h, by simp [keyD]⟩
    · rw [decide_eq_false h, List.any_eq_false]
      intro x hx z
      have : nI x = nI m := of_decide_eq_true z
      exact h (by rw [← nI_inj this]; exact hx)
  unfold setK
  rw [e]
  by_cases h : m ∈ D
  · rw [if_pos (by simpa using h), if_pos h, List.map_map]
    refine List.map_congr_left fun x _ => ?_
    show (if (keyD x).1 = nI m then ((keyD x).1, PyData.bool true) else keyD x) = keyD x
    split <;> rfl
  · rw [if_neg (by simpa using h), if_neg h, List.map_append]
    rfl
theorem insN_sorted {x : Nat} {l : List Nat} (h : l.Pairwise (· < ·)) : (nI (insN x l)).Pairwise (· ≤ ·) := rise_le (insN_rising h)
theorem cal_lots_of (T : Txt K mg) (c_steps_used : C8.Cal P w K mg base 1 "steps_used" spStepsUsed []) (c_needed : C8.Cal P w K mg base 2 "needed" spNeeded []) : C8.Cal P w K mg base 3 "lots_of" spLotsOf [] := by
  refine mk_cal (x := "lots_of") (i := 33) (j := 21) T rfl scLotsOf (fun _ _ _ _ _ _ us hl => match us, hl with | [_], _ => rfl) (fun vs H Q E h => ?_) (fun f cdv A outer s H vs Q E hr h => ?_)
  · obtain ⟨Ms, r, _, _, R, _, _, h, _⟩ := h
    exact (paired_len h).trans rfl
  obtain ⟨Ms, r, ok, nl, R, wf, mu, ha, q⟩ := h
  refine ⟨_, (pss_cons (ps_par (i := 1) (j := 2) rfl scLotsOf.nd rfl rfl (by decide) rfl rfl (pa_cons (pe_lst (pa_cons (pe_tup pa_nil) pa_nil)) (pa_cons (pe_lst (pa_cons (pe_tup pa_nil) pa_nil)) pa_nil)) (by rfl))
      (pss_cons (ps_while PassesOwn.never (pt_cmpR (k_neD K hr.units) (pv 2) (pe_lst pa_nil) (nomark _))
      (pss_cons (ps_set (i := 3) scLotsOf.nd rfl (by first | exact Or.inl rfl | exact Or.inr rfl) pe_dnewT)
      (pss_cons (ps_for PassesOwn.never rfl (k_pi_list K (pv 2)) (pg_name (i := 4) scLotsOf.nd rfl (by first | exact Or.inl rfl | exact Or.inr rfl))
      (pss_one (ps_for PassesOwn.never rfl (k_pi_tup K (C8.pe_c c_needed hr (by decide) rfl (pa_cons (pv 0) pa_nil))) (pg_name (i := 5) scLotsOf.nd rfl (by first | exact Or.inl rfl | exact Or.inr rfl))
      (pss_one (ps_if (PW.pt (pw_and (pt_cmpR (k_notin K) (pv 5) (pv 4) (by rfl)) (pw_and1 (pt_val (pe_callB (k_all K rfl) (by rfl) T.b_all b_all (pa_cons (pe_lc (own := [("one", 6)]) rfl scLotsOf.nd (k_pi_tup K (C8.pe_c c_steps_used hr (by decide) rfl (pa_cons (pe_ix (k_ix_tup K) (pe_ix (k_ix_tup K) (pv 0) pe_int (fun _ _ => rfl)) (pv 5) (fun _ _ => rfl)) pa_nil))) (blkOk_by (own := [("one", 6)]) (N := nLotsOf) (sc := defScope sLotsOf) (by decide +kernel)) (fun _ _ _ _ _ => (pg_name (i := 6) scLotsOf.nd rfl (by first | exact Or.inl rfl | exact Or.inr rfl))) (fun _ _ _ _ _ => pts_nil) (fun _ _ _ _ _ => (pe_cmpR (k_in K) (pv 6) (pv 4) (by rfl)))) pa_nil)))))) (pss_one (ps_dput (hu_of hr) (pv 3) (pe_callTy (k_tupof K) (by rfl) T.b_tuple b_tuple (pa_cons (pe_callB (cr_sortedTu K) (by rfl) T.b_sorted b_sorted (pa_cons (pe_op (k_catA K) (pv 4) (pe_tup (pa_cons (pv 5) pa_nil))) pa_nil)) pa_nil)) pe_bl rfl)) pss_nil)))))
      (pss_cons (ps_set (i := 2) scLotsOf.nd rfl (by first | exact Or.inl rfl | exact Or.inr rfl) (pe_callB (cr_sortedD K hr.units) (by rfl) T.b_sorted b_sorted (pa_cons (pe_callTy (call_list_dT rfl) (by rfl) T.b_list b_list (pa_cons (pv 3) pa_nil)) pa_nil)))
      (pss_one (ps_set (i := 1) scLotsOf.nd rfl (by first | exact Or.inl rfl | exact Or.inr rfl) (pe_op op_cat (pv 1) (pv 2))))))))
      (pss_one (ps_ret (pv 1))))), ?_⟩
  refine go_start wf mu ha ?_
  have e0 : PyData.list [.tuple []] = .list (([[]] : List (List Nat)).map tupN) := rfl
  refine go_seq (go_par (ea_cons ((el_lst1 ev_tup0).ev.to e0) (ea_cons ((el_lst1 ev_tup0).ev.to e0) ea_nil)) ?_)
  refine go_seq (go_while (fun (x : Nat × List (List Nat) × List (List Nat)) Ms' As' => Upto r x.1 x.2.1 x.2.2 ∧ Ms' = Ms ∧ ∃ X3 X4 X5 X6, As' = [some (dp (encR r)), some (dp (.list (x.2.1.map tupN))), some (dp (.list (x.2.2.map tupN))), X3, X4, X5, X6])
    (fun x => 20 - x.1) (0, [[]], [[]]) ⟨Upto.zero, rfl, _, _, _, _, rfl⟩ ?_)
  rintro ⟨k, F, N⟩ Ms' As' ⟨up, rfl, X3, X4, X5, X6, rfl⟩
  have Fl : F.length ≤ 4096 := lots_few nl up.nodup fun m hm => ((up.mem m).mp hm).1
  have Nl : N.length ≤ 4096 := lots_few nl up.nnd fun m hm => ((up.now m).mp hm).1
  refine ⟨!N.isEmpty, et_B ((ev_neD (ev_var (by rfl)) el_lst0.ev (shaped_tups N) (shaped_tups [])).to (by rw [eqv_nil]; cases N <;> rfl)), fun hb => ?_, fun hb => ?_⟩
  · have Nne : N ≠ [] := fun e => by rw [e] at hb; cases hb
    have klow := up.low Nne
    dsimp only
    refine go_seq (go_own en_dT fun p h0 => ?_)
    refine go_seq (go_forE N tupN (ei_list (ev_var (by rfl)))
      (fun i Ms2 As2 => ∃ D l, Keys r N i l 0 D ∧ (∀ m ∈ D, Lot r m) ∧ Ms2 = (p, .dT (D.map keyD)) :: Ms' ∧ ∃ X4 X5 X6, As2 = [some (dp (encR r)), some (dp (.list (F.map tupN))), some (dp (.list (N.map tupN))), some (valA (.ref p)), X4, X5, X6]) ⟨[], [], Keys.start [], fun _ h => absurd h (by simp), rfl, _, _, _, rfl⟩ ?_ ?_)
    · rintro Rb hb2 i l Ms2 As2 hl ⟨D, l0, hk, hD, rfl, X4, X5, X6, rfl⟩
      have hlN : l ∈ N := List.mem_of_getElem? hl
      obtain ⟨hlot, hlen⟩ := (up.now l).mp hlN
      have hk' : Keys r N i l 0 D := ⟨hk.nodup, fun m => by rw [hk.mem]; simp⟩
      refine go_forE (needed r) (fun n : Nat => .int (n : Int)) (ei_tup (ev_needed ok (by rfl)))
        (fun j Ms2 As2 => ∃ D, Keys r N i l j D ∧ Ms2 = (p, .dT (D.map keyD)) :: Ms' ∧ ∃ X5 X6, As2 = [some (dp (encR r)), some (dp (.list (F.map tupN))), some (dp (.list (N.map tupN))), some (valA (.ref p)), some (dp (tupN l)), X5, X6]) ⟨D, hk', rfl, _, _, rfl⟩ ?_ ?_
      · rintro Rb' hb3 j x Ms2 As2 hx ⟨D, hk, rfl, X5, X6, rfl⟩
        have hxn : x ∈ needed r := List.mem_of_getElem? hx
        have Dl : D.length ≤ 4096 := lots_few nl hk.nodup (hk.lots up hlN)
        have ul := uses_len r x
        refine go_if (et_and (et_B (ev_niN (ev_var (by rfl)) (ev_var (by rfl)).sqT)) (fun _ => et_test (ev_all (bs := (r.uses x).map fun u => decide (u ∈ l)) ((el_map (r.uses x) (fun n : Nat => .int (n : Int)) (fun u => .bool (decide (u ∈ l))) (ei_tup (ev_uses (by rfl) (ev_var (by rfl)) (nd_lt hxn))) (fun _ _ => tg_name)
          (fun u hu => ev_inN (ev_var (by rfl)) (ev_var (by rfl)).sqT) (by omega) (by decide)).to (by rw [List.map_map] <;> rfl)).ev))) (fun hb => ?_) (fun hb => ?_)
        · rw [all_map, Bool.and_eq_true] at hb
          have hadd : Addable r l x := ⟨by simpa using hb.1, fun u hu => by have := List.all_eq_true.mp hb.2 u hu; simpa using this⟩
          have ll : l.length ≤ 12 := Nat.le_trans hlot.len nl
          refine go_dputT 0 (i := nI (insN x l)) ev_bl (ev_var (by rfl)) ((ev_tupleOf (el_sortedTu (ns := nI (l ++ [x])) (ms := nI (insN x l)) ((ev_catT (ev_var (by rfl)) (ev_tup1 (ev_var (by rfl))) (by rw [natsD_len]; simp; omega)).to (by rw [← natsD_nI, natsD_app]; rfl)) (by rw [nI_len]; simp; omega) ((insN_perm hadd.1).map _) (insN_sorted hlot.rise)).ev.ls)) (by rfl) h0 (by rw [List.length_map]; omega) (go_inv ⟨_, hk.yes hx hadd, ?_, _, _, rfl⟩)
          show (p, Mc.dT (setK (D.map keyD) (nI (insN x l)) (.bool true))) :: Ms' = _
          rw [setK_keys]
        · rw [all_map] at hb
          refine go_next (go_inv ⟨D, hk.no hx fun hadd => ?_, rfl, _, _, rfl⟩)
          have h1 : (!decide (x ∈ l)) = true := by simp [hadd.1]
          have h2 : ((r.uses x).all fun u => decide (u ∈ l)) = true := List.all_eq_true.mpr fun u hu => by simp [hadd.2 u hu]
          rw [h1, h2] at hb
          cases hb
      · rintro Ms2 As2 ⟨D, hk, rfl, X5, X6, rfl⟩
        exact go_inv ⟨D, l, hk.next hl l, hk.lots up hlN, rfl, _, _, _, rfl⟩
    · rintro Ms2 As2 ⟨D, l, hk, hD, rfl, X4, X5, X6, rfl⟩
      have hdone := hk.done ok up
      have Dl : D.length ≤ 4096 := lots_few nl hk.nodup hD
      have ek : ((D.map keyD).map fun kv => PyData.tuple (intsD kv.1)) = (D.map nI).map fun k => PyData.tuple (intsD k) := by
        rw [List.map_map, List.map_map] <;> rfl
      refine go_seq (go_asgX (elx_sortedTups (ks := D.map nI) (((el_listDT (Ev.dto (ev_var (by rfl)) List.mem_cons_self)).to ek).ev.ls) fun k hkm => ?_).ev fun ds hds => ?_)
      · obtain ⟨m, hm, rfl⟩ := List.mem_map.mp hkm
        intro e
        have h1 := congrArg List.length e
        rw [nI_len, List.length_nil, ((hdone m).mp hm).2] at h1
        omega
      obtain ⟨ks, hp, rfl⟩ := hds
      obtain ⟨N', hp', rfl⟩ := map_perm_inv hp rfl
      have en : (N'.map nI).map (fun k => PyData.tuple (intsD k)) = N'.map tupN := by
        rw [List.map_map]
        refine List.map_congr_left fun m _ => ?_
        show PyData.tuple (intsD (nI m)) = .tuple (natsD m)
        rw [natsD_nI]
      rw [en]
      have Nl' : N'.length ≤ 4096 := by rw [hp'.length_eq]; exact Dl
      have up' : Upto r (k + 1) (F ++ N') N' := up.succ (hp'.nodup_iff.mpr hk.nodup) fun m => by rw [hp'.mem_iff]; exact hdone m
      refine go_dropM ?_
      dsimp only
      refine go_asg ((el_cat (ev_var (by rfl)).ls (ev_var (by rfl)).ls (by rw [List.length_map, List.length_map]; omega)).ev.to (by rw [← List.map_append])) (go_inv ⟨(k + 1, F ++ N', N'), ?_, up', rfl, _, _, _, _, rfl⟩)
      show 20 - (k + 1) < 20 - k
      omega
  · have Ne : N = [] := by cases N with | nil => rfl | cons a N => cases hb
    subst Ne
    dsimp only
    refine go_ret (by exact q) (Ev.le (B := lotsA r) (ev_var (A := dp (.list (F.map tupN))) (by rfl)) fun R v a => ⟨F, up.done ok nl, a⟩)
end
end Rb
end
section
set_option Elab.async false
set_option linter.all false
set_option autoImplicit false
set_option maxRecDepth 100000
set_option maxHeartbeats 4000000
namespace Rb
open PySem PySem.Spec PyProof.Rows L2
theorem bestOf_nil (r : Row) : bestOf r [] = 0 := rfl
theorem bestF_without {r : Row} {l : List Nat} (hn : l.Nodup) {x : Nat} (hx : x ∈ l) {n : Nat} (hl : l.length = n + 1) : bestF r n (without l x) = bestOf r (without l x) := by
  unfold bestOf
  have := without_len hn hx
  rw [show (without l x).length = n by omega]
theorem bestOf_eq {r : Row} {l : List Nat} (hn : l.Nodup) (hne : l ≠ []) : bestOf r l = max (minL ((lastOnes r l).map fun x => bestOf r (without l x))) (heldOf r l).length := by
  obtain ⟨n, hl⟩ : ∃ n, l.length = n + 1 := ⟨l.length - 1, by have := List.length_pos_iff.mpr hne; omega⟩
  show bestF r l.length l = _
  rw [hl]
  show max (minL ((lastOnes r l).map fun x => bestF r n (without l x))) (heldOf r l).length = _
  congr 2
  exact List.map_congr_left fun x hx => bestF_without hn (mem_lastOnes.mp hx).1 hl
theorem countOf_eq {r : Row} {most : Nat} {l : List Nat} (hn : l.Nodup) (hne : l ≠ []) : countOf r most l = if (heldOf r l).length ≤ most then ((lastOnes r l).map fun x => countOf r most (without l x)).sum else 0 := by
  obtain ⟨n, hl⟩ : ∃ n, l.length = n + 1 := ⟨l.length - 1, by have := List.length_pos_iff.mpr hne; omega⟩
  show countF r most l.length l = _
  rw [hl]
  show (if (heldOf r l).length ≤ most then ((lastOnes r l).map fun x => countF r most n (without l x)).sum else 0) = _
  congr 2
  refine List.map_congr_left fun x hx => ?_
  show countF r most n (without l x) = countF r most (without l x).length (without l x)
  have := without_len hn (mem_lastOnes.mp hx).1
  rw [show (without l x).length = n by omega]
theorem getK_lots {β : Type} (f : List Nat → β) : ∀ {L : List (List Nat)} {l : List Nat}, l ∈ L → getK (L.map fun l => (nI l, f l)) (nI l) = some (f l)
  | [], _, h => by simp at h
  | m :: L, l, h => by
    unfold getK
    rw [List.map_cons, List.find?_cons]
    by_cases e : m = l
    · subst e; simp
    · have e' : ¬ (nI m = nI l) := fun z => e (nI_inj z)
      simp only [decide_eq_false e']
      rcases List.mem_cons.mp h with h | h
      · exact absurd h.symm e
      · exact getK_lots f h
theorem setK_lots {β : Type} {f : List Nat → β} {L : List (List Nat)} {l : List Nat} (h : l ∉ L) : setK (L.map fun l => (nI l, f l)) (nI l) (f l) = (L ++ [l]).map fun l => (nI l, f l) := by
  rw [setK_new, List.map_append]
  · rfl
  · intro z
    rw [List.map_map] at z
    obtain ⟨m, hm, e⟩ := List.mem_map.mp z
    have e' : nI m = nI l := e
    exact h (by rw [← nI_inj e']; exact hm)
theorem lots_notin {L : List (List Nat)} (hn : L.Nodup) {i : Nat} {l : List Nat} (h : L[i]? = some l) : l ∉ L.take i := fun z => by
  obtain ⟨j, hj, ej⟩ := List.getElem_of_mem z
  rw [List.length_take] at hj
  rw [List.getElem_take] at ej
  have h2 := List.getElem?_eq_some_iff.mp h
  have := (List.getElem_inj hn).mp (ej.trans h2.2.symm)
  omega
def bestD (r : Row) (L : List (List Nat)) : List (List Int × PyData) := L.map fun l => (nI l, .int (bestOf r l : Int))
def countD (r : Row) (most : Nat) (L : List (List Nat)) : List (List Int × PyData) := L.map fun l => (nI l, .int (countOf r most l : Int))
section
variable {P : Program} {w : World} {K : PySem.W.Frag} {mg : Str → Option Value} {base : Heap}
theorem cut1 (L : List (List Nat)) : cutD (L.map tupN) (some 1) none = (L.drop 1).map tupN := by
  have := cutD_from (L.map tupN) 1
  rw [show ((1 : Nat) : Int) = 1 from rfl] at this
  rw [this, List.map_drop]
section
variable {c : Kx} {Ms : MS} {As : AS} {te : TE}
theorem ev_without {l : List Nat} {x : Nat} {E : XK} {ta tb : TE} (h : Ev c Ms As ta (dp (tupN l))) (h2 : Ev c Ms As tb (dp (.int (x : Int)))) (hl : l.length ≤ 1000) : Ev c Ms As (tCall spWithout [] E (tCons ta (tCons tb tNil))) (dp (.tuple (natsD (without l x)))) :=
  ev_call (ea_cons h (ea_cons h2 ea_nil)) (fun vs H Q h => ⟨_, l, x, hl, h⟩)
theorem ev_lastOnes {r : Row} (ok : r.Ok) {l : List Nat} {E : XK} {i j k : Nat} (h : As[i]? = some (some (dp (encR r)))) (h2 : As[j]? = some (some (dicK (usersD r)))) (h3 : As[k]? = some (some (dp (tupN l)))) (hl : Lot r l) (h4 : l.length ≤ 1000) :
    Ev c Ms As (tCall spLastOnes [] E (tCons (tVar i) (tCons (tVar j) (tCons (tVar k) tNil)))) (dp (.list (natsD (lastOnes r l)))) :=
  ev_call (ea_cons (ev_var h) (ea_cons (ev_var h2) (ea_cons (ev_var h3) ea_nil))) (fun vs H Q h => ⟨_, r, l, ok, h4, hl.sub, h⟩)
theorem ev_heldLen {r : Row} (ok : r.Ok) {l : List Nat} {E : XK} {i j k : Nat} (h : As[i]? = some (some (dp (encR r)))) (h2 : As[j]? = some (some (dicK (usersD r)))) (h3 : As[k]? = some (some (dp (tupN l)))) (hl : Lot r l) (h4 : l.length ≤ 1000) :
    Ev c Ms As (tCB (fun xs H Q => ∃ p ys, xs = [.ref p] ∧ (SqL K H p ys ∨ SqT K H p ys) ∧ Q (.int ys.length) H) (tCons (tCall spHeldOf [] E (tCons (tVar i) (tCons (tVar j) (tCons (tVar k) tNil)))) tNil)) (dp (.int ((heldOf r l).length : Int))) :=
  (ev_len (Ev.sqL (ev_call (ea_cons (ev_var h) (ea_cons (ev_var h2) (ea_cons (ev_var h3) ea_nil))) (fun vs H Q h => ⟨_, r, l, ok, h4, hl.sub, h⟩)))).to (by rw [natsD_len])
end
/-! ### best_loads -/
abbrev sBestLoads : Stmt := topS 36
abbrev nBestLoads : List Str := ["row", "lot", "users", "found", "least", "number"]
theorem scBestLoads : FnScope nBestLoads ["row"] (defScope sBestLoads) := ⟨rfl, rfl, rfl, by decide +kernel, rfl, by decide +kernel, by decide +kernel⟩
def bestA (r : Row) : Asr := exA (LotsOk r) fun L => dicT (bestD r L)
def spBestLoads : Sp := fun vs H Q _ => ∃ (Ms : MS) (r : Row), r.Ok ∧ (needed r).length ≤ 12 ∧ Pu Ms [dp (encR r)] (bestA r) vs H Q
theorem cal_best_loads (T : Txt K mg) (c_users_of : C8.Cal P w K mg base 3 "users_of" spUsersOf []) (c_lots_of : C8.Cal P w K mg base 3 "lots_of" spLotsOf []) (c_last_ones : C8.Cal P w K mg base 1 "last_ones" spLastOnes []) (c_without : C8.Cal P w K mg base 1 "without" spWithout []) (c_held_of : C8.Cal P w K mg base 1 "held_of" spHeldOf []) : C8.Cal P w K mg base 4 "best_loads" spBestLoads [] := by
  refine mk_cal (x := "best_loads") (i := 36) (j := 24) T rfl scBestLoads (fun _ _ _ _ _ _ us hl => match us, hl with | [_], _ => rfl) (fun vs H Q E h => ?_) (fun f cdv A outer s H vs Q E hr h => ?_)
  · obtain ⟨Ms, r, _, _, R, _, _, h, _⟩ := h
    exact (paired_len h).trans rfl
  obtain ⟨Ms, r, ok, nl, R, wf, mu, ha, q⟩ := h
  refine ⟨_, (pss_cons (ps_asg (pe_tup (pa_cons (C8.pe_c c_users_of hr (by decide) rfl (pa_cons (pv 0) pa_nil)) (pa_cons (pe_dispT (hu_of hr) (pe_tup pa_nil) pe_int) pa_nil))) (k_pg_tup K (n := 2) rfl (pgs_cons (pg_name (i := 2) scBestLoads.nd rfl (by first | exact Or.inl rfl | exact Or.inr rfl)) (pgs_cons (pg_name (i := 3) scBestLoads.nd rfl (by first | exact Or.inl rfl | exact Or.inr rfl)) pgs_nil))))
      (pss_cons (ps_for PassesOwn.never rfl (k_pi_list K (pe_slice (k_slL K) (C8.pe_c c_lots_of hr (by decide) rfl (pa_cons (pv 0) pa_nil)) (po_some pe_int) po_none)) (pg_name (i := 1) scBestLoads.nd rfl (by first | exact Or.inl rfl | exact Or.inr rfl))
      (pss_cons (ps_set (i := 4) scBestLoads.nd rfl (by first | exact Or.inl rfl | exact Or.inr rfl) (pe_callB (k_min K rfl) (by rfl) T.b_min b_min (pa_cons (pe_lc (own := [("number", 5)]) rfl scBestLoads.nd (k_pi_list K (C8.pe_c c_last_ones hr (by decide) rfl (pa_cons (pv 0) (pa_cons (pv 2) (pa_cons (pv 1) pa_nil))))) (blkOk_by (own := [("number", 5)]) (N := nBestLoads) (sc := defScope sBestLoads) (by decide +kernel)) (fun _ _ _ _ _ => (pg_name (i := 5) scBestLoads.nd rfl (by first | exact Or.inl rfl | exact Or.inr rfl))) (fun _ _ _ _ _ => pts_nil) (fun _ _ _ _ _ => (pe_dget (hu_of hr) (pv 3) (C8.pe_c c_without hr (by decide) rfl (pa_cons (pv 1) (pa_cons (pv 5) pa_nil))) (fun _ _ => rfl)))) pa_nil)))
      (pss_one (ps_dput (hu_of hr) (pv 3) (pv 1) (pe_callB (call_max2 rfl) (by rfl) T.b_max b_max (pa_cons (pv 4) (pa_cons (pe_callB (k_len K) (by rfl) T.b_len b_len (pa_cons (C8.pe_c c_held_of hr (by decide) rfl (pa_cons (pv 0) (pa_cons (pv 2) (pa_cons (pv 1) pa_nil)))) pa_nil)) pa_nil))) rfl))))
      (pss_one (ps_ret (pv 3))))), ?_⟩
  refine go_start wf mu ha ?_
  refine go_seq (go_tupAN (ev_call (ea_cons (ev_var (by rfl)) ea_nil) (fun vs H Q h => ⟨_, r, ok, h⟩)) (en_dispT (k := []) (fun p => ev_tup0) (fun p => ev_int)) fun p h0 => ?_)
  refine go_seq (go_forX (ei_listX (ds := fun L : List (List Nat) => (L.drop 1).map tupN) (Ev.exle (ev_slLX (ev_call (ea_cons (ev_var (by rfl)) ea_nil) (fun vs H Q h => ⟨_, r, ok, nl, h⟩)) (eo_some ev_int) eo_none) fun L hL => ⟨L, hL, fun R v a => by rw [← cut1]; exact a⟩))
    (fun L i Ms' As' => Ms' = (p, .dT (bestD r (L.take (i + 1)))) :: Ms ∧ ∃ X1 X4 X5, As' = [some (dp (encR r)), X1, some (dicK (usersD r)), some (valA (.ref p)), X4, X5]) (fun L hL => ⟨?_, _, _, _, rfl⟩) ?_ ?_)
  · have h1 := hL.head
    cases L with
    | nil => cases h1
    | cons a L =>
      cases h1
      rfl
  · rintro L hL Rb hb i d Ms' As' hd ⟨rfl, X1, X4, X5, rfl⟩
    rw [List.getElem?_map, List.getElem?_drop] at hd
    obtain ⟨l, hl, rfl⟩ := Option.map_eq_some_iff.mp hd
    rw [Nat.add_comm] at hl
    have hlot := hL.lot l (List.mem_of_getElem? hl)
    have ll : l.length ≤ 12 := Nat.le_trans hlot.len nl
    have hne := hL.ne hl (by omega)
    have hlo : (lastOnes r l).length ≤ l.length := List.length_filter_le _ _
    refine go_seq (go_asg (ev_min (ns := nI ((lastOnes r l).map fun x => bestOf r (without l x))) (k := (minL ((lastOnes r l).map fun x => bestOf r (without l x)) : Int)) ((el_map (lastOnes r l) (fun n : Nat => .int (n : Int)) (fun x => .int (bestOf r (without l x) : Int)) (ei_list (ev_lastOnes ok (by rfl) (by rfl) (by rfl) hlot (by omega))) (fun _ _ => tg_name) (fun x hx => ?_) (by omega) (by decide)).to nI_map_nats).ev (mem_nI.mpr ⟨_, minL_mem ?_, rfl⟩) ?_) ?_)
    · exact ev_dgetT (Ev.dto (ev_var (by rfl)) List.mem_cons_self) ((ev_without (ev_var (by rfl)) (ev_var (by rfl)) (by omega)).to (by rw [natsD_nI])) (getK_lots (fun l => PyData.int (bestOf r l : Int)) (hL.before (i + 1) l x hl hx))
    · simp only [ne_eq, List.map_eq_nil_iff]
      exact lastOnes_ne ok hlot hne
    · intro y hy
      obtain ⟨n, hn, rfl⟩ := mem_nI.mp hy
      have := minL_le hn
      omega
    have ev : PyData.int (bestOf r l : Int) = .int (max (minL ((lastOnes r l).map fun x => bestOf r (without l x)) : Int) ((heldOf r l).length : Int)) := by rw [bestOf_eq hlot.nodup hne]; congr 1; omega
    dsimp only
    refine go_dputT 0 (i := nI l) (d := .int (bestOf r l : Int)) (by rw [ev]; exact ev_max2 (ev_var (by rfl)) (ev_heldLen ok (by rfl) (by rfl) (by rfl) hlot (by omega))) (ev_var (by rfl)) ((ev_var (A := dp (tupN l)) (by rfl)).to (by unfold tupN; rw [natsD_nI])) (by rfl) h0 (by unfold bestD; rw [List.length_map, List.length_take]; have := hL.len; omega) (go_inv ⟨?_, _, _, _, rfl⟩)
    rw [take_snoc hl]
    show (p, Mc.dT (setK (bestD r (L.take (i + 1))) (nI l) (.int (bestOf r l : Int)))) :: Ms = _
    unfold bestD
    rw [setK_lots (f := fun l => PyData.int (bestOf r l : Int)) (lots_notin hL.nodup hl)]
  · rintro L hL Ms' As' ⟨rfl, X1, X4, X5, rfl⟩
    have e : L.take (((L.drop 1).map tupN).length + 1) = L := by
      rw [List.length_map, List.length_drop]
      exact List.take_of_length_le (by omega)
    rw [e]
    exact go_frz (i := 3) (by rfl) h0 (go_ret (by exact q) (Ev.le (B := bestA r) (ev_var (by rfl)) fun R v a => ⟨L, hL, a⟩))
/-! ### counted -/
abbrev sCounted : Stmt := topS 39
abbrev nCounted : List Str := ["row", "most", "lot", "users", "found", "some", "number"]
theorem scCounted : FnScope nCounted ["row", "most"] (defScope sCounted) := ⟨rfl, rfl, rfl, by decide +kernel, rfl, by decide +kernel, by decide +kernel⟩
def spCounted : Sp := fun vs H Q _ => ∃ (Ms : MS) (r : Row) (most : Nat), r.Ok ∧ (needed r).length ≤ 12 ∧ Pu Ms [dp (encR r), dp (.int (most : Int))] (dp (.int (countOf r most (needed r) : Int))) vs H Q
theorem sum_nI : ∀ l : List Nat, (nI l).sum = ((l.sum : Nat) : Int)
  | [] => rfl
  | a :: l => by
    show (a : Int) + (nI l).sum = _
    rw [sum_nI l, List.sum_cons]
    omega
theorem cal_counted (T : Txt K mg) (c_users_of : C8.Cal P w K mg base 3 "users_of" spUsersOf []) (c_lots_of : C8.Cal P w K mg base 3 "lots_of" spLotsOf []) (c_last_ones : C8.Cal P w K mg base 1 "last_ones" spLastOnes []) (c_without : C8.Cal P w K mg base 1 "without" spWithout []) (c_held_of : C8.Cal P w K mg base 1 "held_of" spHeldOf []) (c_needed : C8.Cal P w K mg base 2 "needed" spNeeded []) : C8.Cal P w K mg base 4 "counted" spCounted [] := by
  refine mk_cal (x := "counted") (i := 39) (j := 27) T rfl scCounted (fun _ _ _ _ _ _ us hl => match us, hl with | [_, _], _ => rfl) (fun vs H Q E h => ?_) (fun f cdv A outer s H vs Q E hr h => ?_)
  · obtain ⟨Ms, r, most, _, _, R, _, _, h, _⟩ := h
    exact (paired_len h).trans rfl
  obtain ⟨Ms, r, most, ok, nl, R, wf, mu, ha, q⟩ := h
  refine ⟨_, (pss_cons (ps_asg (pe_tup (pa_cons (C8.pe_c c_users_of hr (by decide) rfl (pa_cons (pv 0) pa_nil)) (pa_cons (pe_dispT (hu_of hr) (pe_tup pa_nil) pe_int) pa_nil))) (k_pg_tup K (n := 2) rfl (pgs_cons (pg_name (i := 3) scCounted.nd rfl (by first | exact Or.inl rfl | exact Or.inr rfl)) (pgs_cons (pg_name (i := 4) scCounted.nd rfl (by first | exact Or.inl rfl | exact Or.inr rfl)) pgs_nil))))
      (pss_cons (ps_for PassesOwn.never rfl (k_pi_list K (pe_slice (k_slL K) (C8.pe_c c_lots_of hr (by decide) rfl (pa_cons (pv 0) pa_nil)) (po_some pe_int) po_none)) (pg_name (i := 2) scCounted.nd rfl (by first | exact Or.inl rfl | exact Or.inr rfl))
      (pss_cons (ps_setLc (i := 5) (own := [("number", 6)]) rfl scCounted.nd rfl rfl (sw_true rfl rfl rfl (by decide +kernel)) (k_pi_list K (C8.pe_c c_last_ones hr (by decide) rfl (pa_cons (pv 0) (pa_cons (pv 3) (pa_cons (pv 2) pa_nil))))) (blkOk_by (own := [("number", 6)]) (N := nCounted) (sc := defScope sCounted) (by decide +kernel)) (fun _ _ _ _ _ => (pg_name (i := 6) scCounted.nd rfl (by first | exact Or.inl rfl | exact Or.inr rfl))) (fun _ _ _ _ _ => pts_nil) (fun _ _ _ _ _ => (pe_dget (hu_of hr) (pv 4) (C8.pe_c c_without hr (by decide) rfl (pa_cons (pv 2) (pa_cons (pv 6) pa_nil))) (fun _ _ => rfl))))
      (pss_one (ps_dput (hu_of hr) (pv 4) (pv 2) (pe_ifExp (pt_cmpR op_le (pe_callB (k_len K) (by rfl) T.b_len b_len (pa_cons (C8.pe_c c_held_of hr (by decide) rfl (pa_cons (pv 0) (pa_cons (pv 3) (pa_cons (pv 2) pa_nil)))) pa_nil)) (pv 1) (nomark _)) (pe_callB (k_sum K rfl) (by rfl) T.b_sum b_sum (pa_cons (pv 5) pa_nil)) pe_int) rfl))))
      (pss_one (ps_ret (pe_dget (hu_of hr) (pv 4) (C8.pe_c c_needed hr (by decide) rfl (pa_cons (pv 0) pa_nil)) (fun _ _ => rfl)))))), ?_⟩
  refine go_start wf mu ha ?_
  refine go_seq (go_tupAN (ev_call (ea_cons (ev_var (by rfl)) ea_nil) (fun vs H Q h => ⟨_, r, ok, h⟩)) (en_dispT (k := []) (fun p => ev_tup0) (fun p => ev_int)) fun p h0 => ?_)
  refine go_seq (go_forX (ei_listX (ds := fun L : List (List Nat) => (L.drop 1).map tupN) (Ev.exle (ev_slLX (ev_call (ea_cons (ev_var (by rfl)) ea_nil) (fun vs H Q h => ⟨_, r, ok, nl, h⟩)) (eo_some ev_int) eo_none) fun L hL => ⟨L, hL, fun R v a => by rw [← cut1]; exact a⟩))
    (fun L i Ms' As' => Ms' = (p, .dT (countD r most (L.take (i + 1)))) :: Ms ∧ ∃ X2 X5 X6, As' = [some (dp (encR r)), some (dp (.int (most : Int))), X2, some (dicK (usersD r)), some (valA (.ref p)), X5, X6]) (fun L hL => ⟨?_, _, _, _, rfl⟩) ?_ ?_)
  · have h1 := hL.head
    cases L with
    | nil => cases h1
    | cons a L =>
      cases h1
      rfl
  · rintro L hL Rb hb i d Ms' As' hd ⟨rfl, X2, X5, X6, rfl⟩
    rw [List.getElem?_map, List.getElem?_drop] at hd
    obtain ⟨l, hl, rfl⟩ := Option.map_eq_some_iff.mp hd
    rw [Nat.add_comm] at hl
    have hlot := hL.lot l (List.mem_of_getElem? hl)
    have ll : l.length ≤ 12 := Nat.le_trans hlot.len nl
    have hne := hL.ne hl (by omega)
    have hlo : (lastOnes r l).length ≤ l.length := List.length_filter_le _ _
    refine go_seq (go_asg ((el_map (lastOnes r l) (fun n : Nat => .int (n : Int)) (fun x => .int (countOf r most (without l x) : Int)) (ei_list (ev_lastOnes ok (by rfl) (by rfl) (by rfl) hlot (by omega))) (fun _ _ => tg_name) (fun x hx => ?_) (by omega) (by decide)).to nI_map_nats).ev ?_)
    · exact ev_dgetT (Ev.dto (ev_var (by rfl)) List.mem_cons_self) ((ev_without (ev_var (by rfl)) (ev_var (by rfl)) (by omega)).to (by rw [natsD_nI])) (getK_lots (fun l => PyData.int (countOf r most l : Int)) (hL.before (i + 1) l x hl hx))
    have ev := countOf_eq (r := r) (most := most) hlot.nodup hne
    dsimp only
    refine go_dputT 0 (i := nI l) (d := .int (countOf r most l : Int)) ?_ (ev_var (by rfl)) ((ev_var (A := dp (tupN l)) (by rfl)).to (by unfold tupN; rw [natsD_nI])) (by rfl) h0 (by unfold countD; rw [List.length_map, List.length_take]; have := hL.len; omega) (go_inv ⟨?_, _, _, _, rfl⟩)
    · rw [ev]
      by_cases hm : (heldOf r l).length ≤ most
      · rw [if_pos hm]
        exact ev_ifT (et_B (ev_le (ev_heldLen ok (by rfl) (by rfl) (by rfl) hlot (by omega)) (ev_var (by rfl)))) (decide_eq_true (by omega)) ((ev_sum (ev_var (by rfl))).to (by rw [sum_nI]))
      · rw [if_neg hm]
        exact ev_ifF (et_B (ev_le (ev_heldLen ok (by rfl) (by rfl) (by rfl) hlot (by omega)) (ev_var (by rfl)))) (decide_eq_false (by omega)) ev_int
    · rw [take_snoc hl]
      show (p, Mc.dT (setK (countD r most (L.take (i + 1))) (nI l) (.int (countOf r most l : Int)))) :: Ms = _
      unfold countD
      rw [setK_lots (f := fun l => PyData.int (countOf r most l : Int)) (lots_notin hL.nodup hl)]
  · rintro L hL Ms' As' ⟨rfl, X2, X5, X6, rfl⟩
    have e : L.take (((L.drop 1).map tupN).length + 1) = L := by
      rw [List.length_map, List.length_drop]
      exact List.take_of_length_le (by omega)
    rw [e]
    exact go_ret (by exact q) (ev_dgetT (Ev.dto (ev_var (by rfl)) List.mem_cons_self) ((ev_needed ok (by rfl)).to (by rw [natsD_nI])) (getK_lots (fun l => PyData.int (countOf r most l : Int)) (hL.every _ (Lot.all ok))))
abbrev sOrdersCounted : Stmt := topS 40
abbrev nOrdersCounted : List Str := ["row"]
theorem scOrdersCounted : FnScope nOrdersCounted ["row"] (defScope sOrdersCounted) := ⟨rfl, rfl, rfl, by decide +kernel, rfl, by decide +kernel, by decide +kernel⟩
def spOrdersCounted : Sp := fun vs H Q _ => ∃ (Ms : MS) (r : Row), r.Ok ∧ (needed r).length ≤ 12 ∧ Pu Ms [dp (encR r)] (dp (.int (countOf r 12 (needed r) : Int))) vs H Q
theorem cal_orders_counted (T : Txt K mg) (c_require_few : C8.Cal P w K mg base 3 "require_few" spRequireFew []) (c_counted : C8.Cal P w K mg base 4 "counted" spCounted []) : C8.Cal P w K mg base 5 "orders_counted" spOrdersCounted [] := by
  refine mk_cal (x := "orders_counted") (i := 40) (j := 28) T rfl scOrdersCounted (fun _ _ _ _ _ _ us hl => match us, hl with | [_], _ => rfl) (fun vs H Q E h => ?_) (fun f cdv A outer s H vs Q E hr h => ?_)
  · obtain ⟨Ms, r, _, _, R, _, _, h, _⟩ := h
    exact (paired_len h).trans rfl
  obtain ⟨Ms, r, ok, nl, R, wf, mu, ha, q⟩ := h
  refine ⟨_, (pss_cons (ps_expr (C8.pe_c c_require_few hr (by decide) rfl (pa_cons (pv 0) pa_nil)))
      (pss_one (ps_ret (C8.pe_c c_counted hr (by decide) rfl (pa_cons (pv 0) (pa_cons (C8.pe_gc rfl T.k_MAX_HELD) pa_nil)))))), ?_⟩
  refine go_start wf mu ha ?_
  refine go_seq (go_drop (ev_call (r := dp .none) (ea_cons (ev_var (by rfl)) ea_nil) (fun vs H Q h => ⟨_, r, ok, nl, h⟩)) ?_)
  exact go_ret (by exact q) (ev_call (ea_cons (ev_var (by rfl)) (ea_cons (ev_int (i := 12)) ea_nil)) (fun vs H Q h => ⟨_, r, 12, ok, nl, h⟩))
/-! ### least_load -/
abbrev sLeastLoad : Stmt := topS 37
abbrev nLeastLoad : List Str := ["row", "needs", "some", "end", "at", "need"]
theorem scLeastLoad : FnScope nLeastLoad ["row"] (defScope sLeastLoad) := ⟨rfl, rfl, rfl, by decide +kernel, rfl, by decide +kernel, by decide +kernel⟩
def spLeastLoad : Sp := fun vs H Q _ => ∃ (Ms : MS) (r : Row), r.Ok ∧ r.ends.length ≤ 60 ∧ (needed r).length ≤ 12 ∧ Pu Ms [dp (encR r)] (dp (.int (leastLoad r : Int))) vs H Q
theorem cal_least_load (T : Txt K mg) (c_is_wood : C8.Cal P w K mg base 4 "is_wood" spIsWood []) (c_needs_of : C8.Cal P w K mg base 3 "needs_of" spNeedsOf []) (c_require_few : C8.Cal P w K mg base 3 "require_few" spRequireFew []) (c_best_loads : C8.Cal P w K mg base 4 "best_loads" spBestLoads []) (c_needed : C8.Cal P w K mg base 2 "needed" spNeeded []) : C8.Cal P w K mg base 5 "least_load" spLeastLoad [] := by
  refine mk_cal (x := "least_load") (i := 37) (j := 25) T rfl scLeastLoad (fun _ _ _ _ _ _ us hl => match us, hl with | [_], _ => rfl) (fun vs H Q E h => ?_) (fun f cdv A outer s H vs Q E hr h => ?_)
  · obtain ⟨Ms, r, _, _, _, R, _, _, h, _⟩ := h
    exact (paired_len h).trans rfl
  obtain ⟨Ms, r, ok, el, nl, R, wf, mu, ha, q⟩ := h
  refine ⟨_, (pss_cons (ps_if (pt_val (C8.pe_c c_is_wood hr (by decide) rfl (pa_cons (pv 0) pa_nil))) (pss_cons (ps_set (i := 1) scLeastLoad.nd rfl (by first | exact Or.inl rfl | exact Or.inr rfl) (C8.pe_c c_needs_of hr (by decide) rfl (pa_cons (pv 0) pa_nil)))
      (pss_cons (ps_set (i := 2) scLeastLoad.nd rfl (by first | exact Or.inl rfl | exact Or.inr rfl) (pe_sortedRev K (by rfl) T.b_sorted (pe_lc (own := [("end", 3)]) rfl scLeastLoad.nd (k_pi_list K (pe_sortedSet K rfl (by rfl) T.b_sorted (by rfl) T.b_set (pe_ix (k_ix_tup K) (pv 0) pe_int (fun _ _ => rfl)))) (blkOk_by (own := [("end", 3)]) (N := nLeastLoad) (sc := defScope sLeastLoad) (by decide +kernel)) (fun _ _ _ _ _ => (pg_name (i := 3) scLeastLoad.nd rfl (by first | exact Or.inl rfl | exact Or.inr rfl))) (fun _ _ _ _ _ => pts_nil) (fun _ _ _ _ _ => (pe_dget (hu_of hr) (pv 1) (pv 3) (fun _ _ => rfl))))))
      (pss_one (ps_ret (pe_callB (k_max K rfl) (by rfl) T.b_max b_max (pa_cons (pe_lc (own := [("at", 4), ("need", 5)]) rfl scLeastLoad.nd (k_enum K (by rfl) T.b_enumerate (pa_cons (pv 2) pa_nil)) (blkOk_by (own := [("at", 4), ("need", 5)]) (N := nLeastLoad) (sc := defScope sLeastLoad) (by decide +kernel)) (fun _ _ _ _ _ => (k_pg_tup K (n := 2) rfl (pgs_cons (pg_name (i := 4) scLeastLoad.nd rfl (by first | exact Or.inl rfl | exact Or.inr rfl)) (pgs_cons (pg_name (i := 5) scLeastLoad.nd rfl (by first | exact Or.inl rfl | exact Or.inr rfl)) pgs_nil)))) (fun _ _ _ _ _ => pts_nil) (fun _ _ _ _ _ => (pe_op op_add (pv 5) (pv 4)))) pa_nil)))))) pss_nil)
      (pss_cons (ps_expr (C8.pe_c c_require_few hr (by decide) rfl (pa_cons (pv 0) pa_nil)))
      (pss_one (ps_ret (pe_dget (hu_of hr) (C8.pe_c c_best_loads hr (by decide) rfl (pa_cons (pv 0) pa_nil)) (C8.pe_c c_needed hr (by decide) rfl (pa_cons (pv 0) pa_nil)) (fun _ _ => rfl)))))), ?_⟩
  refine go_start wf mu ha ?_
  have rl := roots_len r
  refine go_seq (go_if (et_test (ev_call (ea_cons (ev_var (by rfl)) ea_nil) (fun vs H Q h => ⟨_, r, ok, h⟩))) (fun hw => ?_) (fun hw => go_next ?_))
  · have e : leastLoad r = stk (sortD ((roots r).map (needFn r))) := by unfold leastLoad; rw [if_pos hw]
    rw [e] at q
    have sl : (sortD ((roots r).map (needFn r))).length = (roots r).length := by rw [(sortD_perm _).length_eq, List.length_map]
    refine go_seq (go_asg (ev_call (ea_cons (ev_var (by rfl)) ea_nil) (fun vs H Q h => ⟨_, r, ok, h⟩)) ?_)
    refine go_seq (go_asg ((el_sortedRev (ns := nI ((roots r).map (needFn r))) (ms := nI (sortD ((roots r).map (needFn r)))) ((el_map (roots r) (fun n : Nat => .int (n : Int)) (fun y => .int (needFn r y : Int)) (ei_list (el_roots (by rfl) el).ev) (fun _ _ => tg_name) (fun y hy => ev_need (by rfl) (ev_var (by rfl)) (nd_end ok (mem_setN.mp hy))) (by omega) (by decide)).to nI_map_nats).ev.ls ((sortD_perm _).map _) ?_).ev.to (by rw [← natsD_nI])) ?_)
    · exact List.pairwise_map.mpr ((sortD_fall _).imp fun h => by omega)
    refine go_ret (by exact q) (el_stk (by rfl) ?_ ?_ (by omega) (by simp) (by simp) (by decide))
    · intro z
      have h1 := congrArg List.length z
      rw [sl, List.length_nil] at h1
      cases he : r.ends with
      | nil => exact ok.ne he
      | cons x l =>
        have : x ∈ roots r := mem_setN.mpr (by rw [he]; exact List.mem_cons_self)
        rw [List.length_eq_zero_iff.mp h1] at this
        cases this
    · intro z hz
      obtain ⟨y, hy, rfl⟩ := List.mem_map.mp ((sortD_perm _).mem_iff.mp hz)
      exact need_pos ok (nd_end ok (mem_setN.mp hy))
  · have e : leastLoad r = bestOf r (needed r) := by unfold leastLoad; rw [if_neg (by rw [hw]; exact Bool.false_ne_true)]
    rw [e] at q
    refine go_seq (go_drop (ev_call (r := dp .none) (ea_cons (ev_var (by rfl)) ea_nil) (fun vs H Q h => ⟨_, r, ok, nl, h⟩)) ?_)
    refine go_ret (by exact q) (ev_dgetTX (ev_call (ea_cons (ev_var (by rfl)) ea_nil) (fun vs H Q h => ⟨_, r, ok, nl, h⟩)) ((ev_needed ok (by rfl)).to (by rw [natsD_nI])) (fun L hL => getK_lots (fun l => PyData.int (bestOf r l : Int)) (hL.every _ (Lot.all ok))))
end
end Rb
end
section
set_option Elab.async false
set_option linter.all false
set_option autoImplicit false
set_option maxRecDepth 100000
set_option maxHeartbeats 4000000
namespace Rb
open PySem PySem.Spec PyProof.Rows L2
section
variable {c : Kx} {Ms : MS} {As : AS} {ta tb te : TE} {K : PySem.W.Frag}
theorem ev_tup1X {ι : Type} {P : ι → Prop} {d : ι → PyData} (h : Ev c Ms As ta (exA P fun i => dp (d i))) : Ev c Ms As (tTup (tCons ta tNil)) (exA P fun i => dp (.tuple [d i])) := fun σ H R s Q q => by
  unfold tTup
  refine h.bind s fun v H1 R1 g1 s1 ⟨i, hP, a⟩ => ?_
  refine ⟨by show 1 ≤ sizeLine; decide, fun p hp => ?_⟩
  exact q _ _ _ (g1.trans s.wf (.new g1.wf hp)) ⟨i, hP, .tup upd_same (.cons (Rep.mono (same_new (g1.wf.none hp)) _ _ a) .nil)⟩
theorem ev_catTX {ι : Type} {P : ι → Prop} {ds : ι → List PyData} {es : List PyData} (ha : Ev c Ms As ta (exA P fun i => dp (.tuple (ds i)))) (hb : Ev c Ms As tb (dp (.tuple es))) (hl : ∀ i, P i → (ds i).length + es.length ≤ 100000) : Ev c Ms As (tOp (rCatA K) ta tb) (exA P fun i => dp (.tuple (ds i ++ es))) := fun σ H R s Q q =>
  ha.bind s fun x H1 R1 g1 s1 ⟨i, hP, a⟩ => hb.bind s1 fun y H2 R2 g2 s2 b => by
    have h : Ev c Ms [some (dp (.tuple (ds i))), some (dp (.tuple es))] (tOp (rCatA K) (tVar 0) (tVar 1)) (dp (.tuple (ds i ++ es))) := ev_catT (ev_var rfl) (ev_var rfl) (hl i hP)
    have s3 : Sit c Ms [some (dp (.tuple (ds i))), some (dp (.tuple es))] [some x, some y] H2 R2 := ⟨s2.wf, s2.mu, ⟨rfl, fun j A hj => by
      match j, hj with
      | 0, hj => cases hj; exact ⟨x, rfl, (dp (.tuple (ds i))).mono g2.rr a⟩
      | 1, hj => cases hj; exact ⟨y, rfl, b⟩
      | j + 2, hj => cases hj⟩⟩
    have z := h _ _ _ s3 Q fun v H3 R3 g3 r => q v H3 R3 ((g1.trans s.wf g2).trans s.wf g3) ⟨i, hP, r⟩
    obtain ⟨v1, e1, v2, e2, z⟩ := z
    cases e1; cases e2
    exact z
end
section
variable {P : Program} {w : World} {K : PySem.W.Frag} {mg : Str → Option Value} {base : Heap}
abbrev sBestOrder : Stmt := topS 38
abbrev nBestOrder : List Str := ["row", "loads", "users", "lot", "found", "some", "number"]
theorem scBestOrder : FnScope nBestOrder ["row"] (defScope sBestOrder) := ⟨rfl, rfl, rfl, by decide +kernel, rfl, by decide +kernel, by decide +kernel⟩
def bestOrdA (r : Row) : Asr := exA (fun o => IsOrd r o ∧ loadOf r o = leastLoad r) fun o => dp (.tuple (natsD o))
def spBestOrder : Sp := fun vs H Q _ => ∃ (Ms : MS) (r : Row), r.Ok ∧ r.steps.length ≤ 25 ∧ r.ends.length ≤ 60 ∧ (needed r).length ≤ 12 ∧ Pu Ms [dp (encR r)] (bestOrdA r) vs H Q
theorem cal_best_order (T : Txt K mg) (c_is_wood : C8.Cal P w K mg base 4 "is_wood" spIsWood []) (c_needs_of : C8.Cal P w K mg base 3 "needs_of" spNeedsOf []) (c_wood_order : C8.Cal P w K mg base 27 "wood_order" spWoodOrder []) (c_require_few : C8.Cal P w K mg base 3 "require_few" spRequireFew []) (c_best_loads : C8.Cal P w K mg base 4 "best_loads" spBestLoads [])
    (c_users_of : C8.Cal P w K mg base 3 "users_of" spUsersOf []) (c_needed : C8.Cal P w K mg base 2 "needed" spNeeded []) (c_last_ones : C8.Cal P w K mg base 1 "last_ones" spLastOnes []) (c_without : C8.Cal P w K mg base 1 "without" spWithout []) : C8.Cal P w K mg base 28 "best_order" spBestOrder [] := by
  refine mk_cal (x := "best_order") (i := 38) (j := 26) T rfl scBestOrder (fun _ _ _ _ _ _ us hl => match us, hl with | [_], _ => rfl) (fun vs H Q E h => ?_) (fun f cdv A outer s H vs Q E hr h => ?_)
  · obtain ⟨Ms, r, _, _, _, _, R, _, _, h, _⟩ := h
    exact (paired_len h).trans rfl
  obtain ⟨Ms, r, ok, sl, el, nl, R, wf, mu, ha, q⟩ := h
  refine ⟨_, (pss_cons (ps_if (pt_val (C8.pe_c c_is_wood hr (by decide) rfl (pa_cons (pv 0) pa_nil))) (pss_one (ps_ret (C8.pe_c c_wood_order hr (by decide) rfl (pa_cons (pv 0) (pa_cons (C8.pe_c c_needs_of hr (by decide) rfl (pa_cons (pv 0) pa_nil)) pa_nil))))) pss_nil)
      (pss_cons (ps_expr (C8.pe_c c_require_few hr (by decide) rfl (pa_cons (pv 0) pa_nil)))
      (pss_cons (ps_asg (pe_tup (pa_cons (C8.pe_c c_best_loads hr (by decide) rfl (pa_cons (pv 0) pa_nil)) (pa_cons (C8.pe_c c_users_of hr (by decide) rfl (pa_cons (pv 0) pa_nil)) (pa_cons (C8.pe_c c_needed hr (by decide) rfl (pa_cons (pv 0) pa_nil)) (pa_cons (pe_tup pa_nil) pa_nil))))) (k_pg_tup K (n := 4) rfl (pgs_cons (pg_name (i := 1) scBestOrder.nd rfl (by first | exact Or.inl rfl | exact Or.inr rfl)) (pgs_cons (pg_name (i := 2) scBestOrder.nd rfl (by first | exact Or.inl rfl | exact Or.inr rfl)) (pgs_cons (pg_name (i := 3) scBestOrder.nd rfl (by first | exact Or.inl rfl | exact Or.inr rfl)) (pgs_cons (pg_name (i := 4) scBestOrder.nd rfl (by first | exact Or.inl rfl | exact Or.inr rfl)) pgs_nil))))))
      (pss_cons (ps_while PassesOwn.never (pt_cmpR (k_neD K hr.units) (pv 3) (pe_tup pa_nil) (nomark _))
      (pss_cons (ps_setLc (i := 5) (own := [("number", 6)]) rfl scBestOrder.nd rfl rfl (sw_true rfl rfl rfl (by decide +kernel)) (k_pi_list K (C8.pe_c c_last_ones hr (by decide) rfl (pa_cons (pv 0) (pa_cons (pv 2) (pa_cons (pv 3) pa_nil))))) (blkOk_by (own := [("number", 6)]) (N := nBestOrder) (sc := defScope sBestOrder) (by decide +kernel)) (fun _ _ _ _ _ => (pg_name (i := 6) scBestOrder.nd rfl (by first | exact Or.inl rfl | exact Or.inr rfl))) (fun _ _ _ _ _ => pts_nil) (fun _ _ _ _ _ => (pe_tup (pa_cons (pe_dget (hu_of hr) (pv 1) (C8.pe_c c_without hr (by decide) rfl (pa_cons (pv 3) (pa_cons (pv 6) pa_nil))) (fun _ _ => rfl)) (pa_cons (pv 6) pa_nil)))))
      (pss_cons (ps_set (i := 4) scBestOrder.nd rfl (by first | exact Or.inl rfl | exact Or.inr rfl) (pe_op (k_catA K) (pe_tup (pa_cons (pe_ix (k_ix_tup K) (pe_callB (cr_minPairs K rfl hr.units) (by rfl) T.b_min b_min (pa_cons (pv 5) pa_nil)) pe_int (fun _ _ => rfl)) pa_nil)) (pv 4)))
      (pss_one (ps_set (i := 3) scBestOrder.nd rfl (by first | exact Or.inl rfl | exact Or.inr rfl) (C8.pe_c c_without hr (by decide) rfl (pa_cons (pv 3) (pa_cons (pe_ix (k_ix_tup K) (pv 4) pe_int (fun _ _ => rfl)) pa_nil))))))))
      (pss_one (ps_ret (pv 4))))))), ?_⟩
  refine go_start wf mu ha ?_
  refine go_seq (go_if (et_test (ev_call (ea_cons (ev_var (by rfl)) ea_nil) (fun vs H Q h => ⟨_, r, ok, h⟩))) (fun hw => ?_) (fun hw => go_next ?_))
  · have wd := wood_of ok hw
    exact go_ret (by exact q) (Ev.le (B := bestOrdA r) (ev_call (r := dp (.tuple (natsD (woodOrd r 25)))) (ea_cons (ev_var (by rfl)) (ea_cons (ev_call (r := dicK (needsD r (needed r))) (ea_cons (ev_var (by rfl)) ea_nil) (fun vs H Q h => ⟨_, r, ok, h⟩)) ea_nil)) (fun vs H Q h => ⟨_, r, ok, sl, el, wd, h⟩)) fun R v a => ⟨woodOrd r 25, ⟨woodOrd_ord ok wd sl, wood_load ok hw sl⟩, a⟩)
  · have e0 : leastLoad r = bestOf r (needed r) := by unfold leastLoad; rw [if_neg (by rw [hw]; exact Bool.false_ne_true)]
    refine go_seq (go_drop (ev_call (r := dp .none) (ea_cons (ev_var (by rfl)) ea_nil) (fun vs H Q h => ⟨_, r, ok, nl, h⟩)) ?_)
    refine go_seq (go_tup4 (ea_cons (ev_call (r := bestA r) (ea_cons (ev_var (by rfl)) ea_nil) (fun vs H Q h => ⟨_, r, ok, nl, h⟩)) (ea_cons (ev_call (r := dicK (usersD r)) (ea_cons (ev_var (by rfl)) ea_nil) (fun vs H Q h => ⟨_, r, ok, h⟩)) (ea_cons (ev_needed ok (by rfl)) (ea_cons ev_tup0 ea_nil)))) ?_)
    refine go_seq (go_while (fun (x : List Nat × List Nat) Ms' As' => Lot r x.1 ∧ Chain r x.1 x.2 ∧ max (bestOf r x.1) (chainLoad r x.1 x.2) = bestOf r (needed r) ∧ Ms' = Ms ∧ ∃ X5 X6, As' = [some (dp (encR r)), some (bestA r), some (dicK (usersD r)), some (dp (tupN x.1)), some (dp (tupN x.2)), X5, X6])
      (fun x => x.1.length) (needed r, []) ⟨Lot.all ok, Chain.nil, Nat.max_zero _, rfl, _, _, rfl⟩ ?_)
    rintro ⟨l, f⟩ Ms' As' ⟨lot, ch, hmax, rfl, X5, X6, rfl⟩
    replace lot : Lot r l := lot
    replace ch : Chain r l f := ch
    replace hmax : max (bestOf r l) (chainLoad r l f) = bestOf r (needed r) := hmax
    have ll : l.length ≤ 12 := Nat.le_trans lot.len nl
    have lf : f.length ≤ 12 := by
      have := ch.perm.length_eq
      rw [List.length_append] at this
      omega
    refine ⟨!decide (nI l = []), et_B ((ev_neD ((ev_var (A := dp (tupN l)) (by rfl)).to (by unfold tupN; rw [natsD_nI])) ev_tup0 (shaped_tup _) (shaped_tup [])).to (by rw [show PyData.eqv (.tuple (intsD (nI l))) (.tuple []) = _ from eqv_tup _ []])), fun hb => ?_, fun hb => ?_⟩
    · have lne : l ≠ [] := fun e => by rw [e] at hb; exact absurd hb (by decide)
      have hlo : (lastOnes r l).length ≤ l.length := List.length_filter_le _ _
      dsimp only
      refine go_seq (go_asg ((el_map (lastOnes r l) (fun n : Nat => .int (n : Int)) (fun x => prD ((bestOf r (without l x) : Int), (x : Int))) (ei_list (ev_lastOnes ok (by rfl) (by rfl) (by rfl) lot (by omega))) (fun _ _ => tg_name) (fun x hx => ev_tup2 (ev_dgetTX (ev_var (A := bestA r) (by rfl)) ((ev_without (ev_var (by rfl)) (ev_var (by rfl)) (by omega)).to (by rw [natsD_nI])) (fun L hL => getK_lots (fun l => PyData.int (bestOf r l : Int)) (hL.every _ (lot.without hx)))) (ev_var (by rfl))) (by omega) (by decide)).ev) ?_)
      have eps : ((lastOnes r l).map fun x => prD ((bestOf r (without l x) : Int), (x : Int))) = ((lastOnes r l).map fun x => ((bestOf r (without l x) : Int), (x : Int))).map prD := by rw [List.map_map] <;> rfl
      rw [eps]
      refine go_seq (go_asgX (P := fun x => x ∈ lastOnes r l ∧ ∀ y ∈ lastOnes r l, bestOf r (without l x) ≤ bestOf r (without l y)) (F := fun x => dp (tupN (x :: f))) (Ev.exle (ev_catTX (ev_tup1X (ev_ixTX (g := fun q : Int × Int => PyData.int q.2) 1 (ev_minPairs (ev_var (by rfl)).ls ?_) ev_int fun q _ => rfl)) (ev_var (A := dp (tupN f)) (by rfl)) fun q _ => ?_) fun q hq => ?_) fun x hx => ?_)
      · simp only [ne_eq, List.map_eq_nil_iff]
        exact lastOnes_ne ok lot lne
      · rw [natsD_len]
        show 1 + f.length ≤ 100000
        omega
      · obtain ⟨hq1, hq2⟩ := hq
        obtain ⟨x, hx, rfl⟩ := List.mem_map.mp hq1
        exact ⟨x, ⟨hx, fun y hy => by have := hq2 _ (List.mem_map.mpr ⟨y, hy, rfl⟩); dsimp only at this; omega⟩, fun R v a => a⟩
      · obtain ⟨hx1, hx2⟩ := hx
        have hxl := (mem_lastOnes.mp hx1).1
        have hlw := without_len lot.nodup hxl
        dsimp only
        refine go_asg (ev_without (ev_var (by rfl)) (ev_ixTn (d := .int (x : Int)) 0 (ev_var (A := dp (tupN (x :: f))) (by rfl)) ev_int (by rfl)) (by omega)) (go_inv ⟨(without l x, x :: f), ?_, lot.without hx1, Chain.cons (fun z => (mem_without.mp z).2 rfl) (fun u hu => mem_without.mpr ⟨lot.down x hxl u hu, fun e => by have := ok.use hu; omega⟩) (by rw [ins_without lot.rise hxl]; exact ch), ?_, rfl, _, _, rfl⟩)
        · show (without l x).length < l.length
          omega
        · show max (bestOf r (without l x)) (max (heldOf r (insN x (without l x))).length (chainLoad r (insN x (without l x)) f)) = _
          rw [ins_without lot.rise hxl, ← hmax, bestOf_eq lot.nodup lne]
          have : minL ((lastOnes r l).map fun x => bestOf r (without l x)) = bestOf r (without l x) := by
            refine Nat.le_antisymm (minL_le (List.mem_map.mpr ⟨x, hx1, rfl⟩)) ?_
            obtain ⟨y, hy, e⟩ := List.mem_map.mp (minL_mem (l := (lastOnes r l).map fun x => bestOf r (without l x)) (by
              simp only [ne_eq, List.map_eq_nil_iff]
              exact lastOnes_ne ok lot lne))
            rw [← e]
            exact hx2 y hy
          rw [this]
          omega
    · have le : l = [] := by
        have : nI l = [] := by simpa using hb
        cases l with
        | nil => rfl
        | cons a l => cases this
      subst le
      dsimp only
      refine go_ret (by exact q) (Ev.le (B := bestOrdA r) (ev_var (A := dp (tupN f)) (by rfl)) fun R v a => ⟨f, ⟨ch.ord, ?_⟩, a⟩)
      rw [ch.loadOf, e0, ← hmax]
      show _ = max 0 _
      omega
end
end Rb
end
section
set_option Elab.async false
set_option linter.all false
set_option autoImplicit false
set_option maxRecDepth 100000
set_option maxHeartbeats 4000000
namespace Rb
open PySem PySem.Spec PyProof.Rows L2
section
variable {P : Program} {w : World} {K : PySem.W.Frag} {mg : Str → Option Value} {base : Heap}
/-! ### step_by -/
abbrev sStepBy : Stmt := topS 42
abbrev nStepBy : List Str := ["step", "names", "number"]
theorem scStepBy : FnScope nStepBy ["step", "names"] (defScope sStepBy) := ⟨rfl, rfl, rfl, by decide +kernel, rfl, by decide +kernel, by decide +kernel⟩
def namesD (n k : Nat) : List (Int × PyData) := (List.range k).map fun i : Nat => ((i : Int), PyData.int ((n + i : Nat) : Int))
def spStepBy : Sp := fun vs H Q _ => ∃ (Ms Ms' : MS) (a n k : Nat) (s : Stp), Ms' ⊆ Ms ∧ (∀ u ∈ s.uses, u < k) ∧ (∀ j, s ≠ .inn j) ∧ Pu Ms [dp (encS s), dkA Ms' (namesD n k)] (dp (encS (s.shift a n))) vs H Q
theorem namesD_get {n k u : Nat} (h : u < k) : getK (namesD n k) (u : Int) = some (.int ((n + u : Nat) : Int)) := getK_map (fun i => PyData.int ((n + i : Nat) : Int)) (List.mem_range.mpr h)
theorem ev_dgetKm {c : Kx} {Ms Ms' : MS} {As : AS} {i u n k : Nat} {te : TE} (h : As[i]? = some (some (dkA Ms' (namesD n k)))) (h2 : Ev c Ms As te (dp (.int (u : Int)))) (hu : u < k) (hs : Ms' ⊆ Ms) : Ev c Ms As (tDGet (tVar i) te) (dp (.int ((n + u : Nat) : Int))) :=
  ev_dgetK (ev_var h) h2 (namesD_get hu) hs
theorem cal_step_by (T : Txt K mg) : C8.Cal P w K mg base 1 "step_by" spStepBy [] := by
  refine mk_cal (x := "step_by") (i := 42) (j := 29) T rfl scStepBy (fun _ _ _ _ _ _ us hl => match us, hl with | [_, _], _ => rfl) (fun vs H Q E h => ?_) (fun f cdv A outer s H vs Q E hr h => ?_)
  · obtain ⟨Ms, Ms', a, n, k, s, _, _, _, R, _, _, h, _⟩ := h
    exact (paired_len h).trans rfl
  obtain ⟨Ms, Ms', a, n, k, st, sub, hu, hin, R, wf, mu, ha, q⟩ := h
  refine ⟨_, (pss_cons (ps_if (pt_cmpR (k_in K) (pe_ix (k_ix_tup K) (pv 0) pe_int (fun _ _ => rfl)) (pe_tup (pa_cons pe_str (pa_cons pe_str pa_nil))) (by rfl)) (pss_one (ps_ret (pv 0))) pss_nil)
      (pss_one (ps_ret (pe_op (k_catA K) (pe_slice (k_slT K) (pv 0) po_none (po_some pe_int)) (pe_callTy (k_tupof K) (by rfl) T.b_tuple b_tuple (pa_cons (pe_lc (own := [("number", 2)]) rfl scStepBy.nd (k_pi_tup K (pe_slice (k_slT K) (pv 0) (po_some pe_int) po_none)) (blkOk_by (own := [("number", 2)]) (N := nStepBy) (sc := defScope sStepBy) (by decide +kernel)) (fun _ _ _ _ _ => (pg_name (i := 2) scStepBy.nd rfl (by first | exact Or.inl rfl | exact Or.inr rfl))) (fun _ _ _ _ _ => pts_nil) (fun _ _ _ _ _ => (pe_dget (hu_of hr) (pv 1) (pv 2) (fun _ _ => rfl)))) pa_nil)))))), ?_⟩
  refine go_start wf mu ha ?_
  cases st with
  | inn j => exact absurd rfl (hin j)
  | st v =>
    refine go_seq (go_ifT (et_B (ev_inS (neg := false) (xs := ["in", "set"]) (ev_ixTn 0 (ev_var (by rfl)) ev_int (by rfl)) (ev_tup2 ev_str ev_str))) (by rfl) ?_)
    exact go_ret (by exact q) (ev_var (by rfl))
  | neg i =>
    refine go_seq (go_ifF (et_B (ev_inS (neg := false) (xs := ["in", "set"]) (ev_ixTn 0 (ev_var (by rfl)) ev_int (by rfl)) (ev_tup2 ev_str ev_str))) (by rfl) (go_next ?_))
    exact go_ret (by exact q) ((ev_catT ((ev_slT (ev_var (by rfl)) eo_none (eo_some ev_int)).to (by rfl : PyData.tuple _ = .tuple [.str (Stp.neg i).word])) (ev_tupleOf (el_map [i] (fun n : Nat => .int (n : Int)) (fun u => .int ((n + u : Nat) : Int)) (ei_tup ((ev_slT (ev_var (by rfl)) (eo_some ev_int) eo_none).to (by rfl))) (fun _ _ => tg_name)
      (fun u hu' => ev_dgetKm (by rfl) (ev_var (by rfl)) (hu u hu') sub) (by simp) (by decide)).ev.ls) (by simp)).to (by rfl))
  | add i j =>
    refine go_seq (go_ifF (et_B (ev_inS (neg := false) (xs := ["in", "set"]) (ev_ixTn 0 (ev_var (by rfl)) ev_int (by rfl)) (ev_tup2 ev_str ev_str))) (by rfl) (go_next ?_))
    exact go_ret (by exact q) ((ev_catT ((ev_slT (ev_var (by rfl)) eo_none (eo_some ev_int)).to (by rfl : PyData.tuple _ = .tuple [.str (Stp.add i j).word])) (ev_tupleOf (el_map [i, j] (fun n : Nat => .int (n : Int)) (fun u => .int ((n + u : Nat) : Int)) (ei_tup ((ev_slT (ev_var (by rfl)) (eo_some ev_int) eo_none).to (by rfl))) (fun _ _ => tg_name)
      (fun u hu' => ev_dgetKm (by rfl) (ev_var (by rfl)) (hu u hu') sub) (by simp) (by decide)).ev.ls) (by simp)).to (by rfl))
  | sub i j =>
    refine go_seq (go_ifF (et_B (ev_inS (neg := false) (xs := ["in", "set"]) (ev_ixTn 0 (ev_var (by rfl)) ev_int (by rfl)) (ev_tup2 ev_str ev_str))) (by rfl) (go_next ?_))
    exact go_ret (by exact q) ((ev_catT ((ev_slT (ev_var (by rfl)) eo_none (eo_some ev_int)).to (by rfl : PyData.tuple _ = .tuple [.str (Stp.sub i j).word])) (ev_tupleOf (el_map [i, j] (fun n : Nat => .int (n : Int)) (fun u => .int ((n + u : Nat) : Int)) (ei_tup ((ev_slT (ev_var (by rfl)) (eo_some ev_int) eo_none).to (by rfl))) (fun _ _ => tg_name)
      (fun u hu' => ev_dgetKm (by rfl) (ev_var (by rfl)) (hu u hu') sub) (by simp) (by decide)).ev.ls) (by simp)).to (by rfl))
  | mul i j =>
    refine go_seq (go_ifF (et_B (ev_inS (neg := false) (xs := ["in", "set"]) (ev_ixTn 0 (ev_var (by rfl)) ev_int (by rfl)) (ev_tup2 ev_str ev_str))) (by rfl) (go_next ?_))
    exact go_ret (by exact q) ((ev_catT ((ev_slT (ev_var (by rfl)) eo_none (eo_some ev_int)).to (by rfl : PyData.tuple _ = .tuple [.str (Stp.mul i j).word])) (ev_tupleOf (el_map [i, j] (fun n : Nat => .int (n : Int)) (fun u => .int ((n + u : Nat) : Int)) (ei_tup ((ev_slT (ev_var (by rfl)) (eo_some ev_int) eo_none).to (by rfl))) (fun _ _ => tg_name)
      (fun u hu' => ev_dgetKm (by rfl) (ev_var (by rfl)) (hu u hu') sub) (by simp) (by decide)).ev.ls) (by simp)).to (by rfl))
/-! ### checked, beside -/
abbrev sChecked : Stmt := topS 43
abbrev nChecked : List Str := ["row"]
theorem scChecked : FnScope nChecked ["row"] (defScope sChecked) := ⟨rfl, rfl, rfl, by decide +kernel, rfl, by decide +kernel, by decide +kernel⟩
structure Row.Fit (r : Row) : Prop where
  wide : r.inputs ≤ 20
  long : r.steps.length ≤ 400
  ends : r.ends.length ≤ 20
  size : ∀ k ∈ sizesOf r.steps, k ≤ 64
def spChecked : Sp := fun vs H Q _ => ∃ (Ms : MS) (r : Row), r.Ok ∧ r.Fit ∧ Pu Ms [dp (encR r)] (dp (encR r)) vs H Q
theorem steps_ne {r : Row} (ok : r.Ok) : r.steps ≠ [] := fun e => by
  cases he : r.ends with
  | nil => exact ok.ne he
  | cons x l =>
    have := ok.ends x (by rw [he]; exact List.mem_cons_self)
    rw [e] at this
    exact absurd this (by simp)
theorem cal_checked (T : Txt K mg) (c_sizes : C8.Cal P w K mg base 2 "sizes" spSizes []) : C8.Cal P w K mg base 3 "checked" spChecked [] := by
  refine mk_cal (x := "checked") (i := 43) (j := 30) T rfl scChecked (fun _ _ _ _ _ _ us hl => match us, hl with | [_], _ => rfl) (fun vs H Q E h => ?_) (fun f cdv A outer s H vs Q E hr h => ?_)
  · obtain ⟨Ms, r, _, _, R, _, _, h, _⟩ := h
    exact (paired_len h).trans rfl
  obtain ⟨Ms, r, ok, fit, R, wf, mu, ha, q⟩ := h
  refine ⟨_, (pss_cons (ps_if (PW.pt (pw_or (pt_cmpR op_gt (pe_ix (k_ix_tup K) (pv 0) pe_int (fun _ _ => rfl)) (C8.pe_gc rfl T.k_MAX_WIDE) (nomark _)) (pw_or (pt_cmpR op_gt (pe_callB (k_len K) (by rfl) T.b_len b_len (pa_cons (pe_ix (k_ix_tup K) (pv 0) pe_int (fun _ _ => rfl)) pa_nil)) (C8.pe_gc rfl T.k_MAX_LONG) (nomark _)) (pw_or (pt_cmpR op_gt (pe_callB (k_len K) (by rfl) T.b_len b_len (pa_cons (pe_ix (k_ix_tup K) (pv 0) pe_int (fun _ _ => rfl)) pa_nil)) (C8.pe_gc rfl T.k_MAX_WIDE) (nomark _)) (pw_or1 (pt_cmpR op_gt (pe_callB (cr_maxT K rfl hr.units) (by rfl) T.b_max b_max (pa_cons (C8.pe_c c_sizes hr (by decide) rfl (pa_cons (pv 0) pa_nil)) pa_nil)) (C8.pe_gc rfl T.k_MAX_SIZE) (nomark _))))))) (pss_one ps_never) pss_nil)
      (pss_one (ps_ret (pv 0)))), ?_⟩
  refine go_start wf mu ha ?_
  obtain ⟨k, hk, hm⟩ := exists_max (l := sizesOf r.steps) (fun e => steps_ne ok (by
    have := congrArg List.length e
    rw [sizesOf_len] at this
    exact List.length_eq_zero_iff.mp this))
  have h1 := fit.wide
  have h2 := fit.long
  have h3 := fit.ends
  have h4 := fit.size k hk
  have hn : (r.steps.map encS).length = r.steps.length := List.length_map _
  refine go_seq (go_ifF (et_or (et_B (ev_gt (ev_ixTn 0 (ev_var (by rfl)) ev_int (by rfl)) (ev_int (i := 20)))) fun _ => et_or (et_B (ev_gt (ev_len (ev_ixTn 1 (ev_var (by rfl)) ev_int (by rfl)).sqT) (ev_int (i := 400)))) fun _ => et_or (et_B (ev_gt (ev_len (ev_ends (by rfl)).sqT) (ev_int (i := 20)))) fun _ =>
    et_B (ev_gt (ev_maxT (ns := sizesOf r.steps) (ev_call (ea_cons (ev_var (by rfl)) ea_nil) (fun vs H Q h => ⟨_, r, ok, h⟩)) hk hm) (ev_int (i := 64)))) ?_ (go_next ?_))
  · rw [hn, natsD_len]
    simp
    omega
  · exact go_ret (by exact q) (ev_var (by rfl))
abbrev sBeside : Stmt := topS 44
abbrev nBeside : List Str := ["one", "other", "ends", "names", "steps", "number", "step", "end"]
theorem scBeside : FnScope nBeside ["one", "other"] (defScope sBeside) := ⟨rfl, rfl, rfl, by decide +kernel, rfl, by decide +kernel, by decide +kernel⟩
def spBeside : Sp := fun vs H Q _ => ∃ (Ms : MS) (r s : Row), r.Ok ∧ s.Ok ∧ (besideR r s).Ok ∧ (besideR r s).Fit ∧ Pu Ms [dp (encR r), dp (encR s)] (dp (encR (besideR r s))) vs H Q
theorem encS_nonin (s : Stp) (h : ∀ j, s ≠ .inn j) : s.word ≠ "in" := by
  cases s with
  | inn j => exact absurd rfl (h j)
  | _ => simp only [Stp.word]; decide
theorem setK_names {n k : Nat} : setK (namesD n k) (k : Int) (.int ((n : Int) + (k : Int))) = namesD n (k + 1) := by
  have h := setK_map_new (f := fun i => PyData.int ((n + i : Nat) : Int)) (l := List.range k) (x := k) (by simp)
  unfold namesD
  rw [List.range_succ, ← h]
  congr 2
theorem cal_beside (T : Txt K mg) (c_step_by : C8.Cal P w K mg base 1 "step_by" spStepBy []) (c_checked : C8.Cal P w K mg base 3 "checked" spChecked []) : C8.Cal P w K mg base 4 "beside" spBeside [] := by
  refine mk_cal (x := "beside") (i := 44) (j := 31) T rfl scBeside (fun _ _ _ _ _ _ us hl => match us, hl with | [_, _], _ => rfl) (fun vs H Q E h => ?_) (fun f cdv A outer s H vs Q E hr h => ?_)
  · obtain ⟨Ms, r, s, _, _, _, _, R, _, _, h, _⟩ := h
    exact (paired_len h).trans rfl
  obtain ⟨Ms, r, s, ok, ok', okb, fit, R, wf, mu, ha, q⟩ := h
  refine ⟨_, (pss_cons (ps_asg (pe_tup (pa_cons pe_dnewK (pa_cons (pe_callTy (k_listof K) (by rfl) T.b_list b_list (pa_cons (pe_ix (k_ix_tup K) (pv 0) pe_int (fun _ _ => rfl)) pa_nil)) pa_nil))) (k_pg_tup K (n := 2) rfl (pgs_cons (pg_name (i := 3) scBeside.nd rfl (by first | exact Or.inl rfl | exact Or.inr rfl)) (pgs_cons (pg_name (i := 4) scBeside.nd rfl (by first | exact Or.inl rfl | exact Or.inr rfl)) pgs_nil))))
      (pss_cons (ps_for PassesOwn.never rfl (pi_enumT K (by rfl) T.b_enumerate (pa_cons (pe_ix (k_ix_tup K) (pv 1) pe_int (fun _ _ => rfl)) pa_nil)) (k_pg_tup K (n := 2) rfl (pgs_cons (pg_name (i := 5) scBeside.nd rfl (by first | exact Or.inl rfl | exact Or.inr rfl)) (pgs_cons (pg_name (i := 6) scBeside.nd rfl (by first | exact Or.inl rfl | exact Or.inr rfl)) pgs_nil)))
      (pss_cons (ps_dput (hu_of hr) (pv 3) (pv 5) (pe_op op_add (pe_callB (k_len K) (by rfl) T.b_len b_len (pa_cons (pe_ix (k_ix_tup K) (pv 0) pe_int (fun _ _ => rfl)) pa_nil)) (pv 5)) rfl)
      (pss_one (ps_expr (k_bm K PySem.F.plainAttrs_list PySem.F.slot_list_append PySem.F.type_list_append mt_append (pv 4) (pa_cons (pe_ifExp (pt_cmpR op_eq (pe_ix (k_ix_tup K) (pv 6) pe_int (fun _ _ => rfl)) pe_str (nomark _)) (pe_tup (pa_cons pe_str (pa_cons (pe_op op_add (pe_ix (k_ix_tup K) (pv 0) pe_int (fun _ _ => rfl)) (pe_ix (k_ix_tup K) (pv 6) pe_int (fun _ _ => rfl))) pa_nil))) (C8.pe_c c_step_by hr (by decide) rfl (pa_cons (pv 6) (pa_cons (pv 3) pa_nil)))) pa_nil))))))
      (pss_cons (ps_set (i := 2) scBeside.nd rfl (by first | exact Or.inl rfl | exact Or.inr rfl) (pe_op (k_catA K) (pe_ix (k_ix_tup K) (pv 0) pe_int (fun _ _ => rfl)) (pe_callTy (k_tupof K) (by rfl) T.b_tuple b_tuple (pa_cons (pe_lc (own := [("end", 7)]) rfl scBeside.nd (k_pi_tup K (pe_ix (k_ix_tup K) (pv 1) pe_int (fun _ _ => rfl))) (blkOk_by (own := [("end", 7)]) (N := nBeside) (sc := defScope sBeside) (by decide +kernel)) (fun _ _ _ _ _ => (pg_name (i := 7) scBeside.nd rfl (by first | exact Or.inl rfl | exact Or.inr rfl))) (fun _ _ _ _ _ => pts_nil) (fun _ _ _ _ _ => (pe_dget (hu_of hr) (pv 3) (pv 7) (fun _ _ => rfl)))) pa_nil))))
      (pss_one (ps_ret (C8.pe_c c_checked hr (by decide) rfl (pa_cons (pe_tup (pa_cons (pe_op op_add (pe_ix (k_ix_tup K) (pv 0) pe_int (fun _ _ => rfl)) (pe_ix (k_ix_tup K) (pv 1) pe_int (fun _ _ => rfl))) (pa_cons (pe_callTy (k_tupof K) (by rfl) T.b_tuple b_tuple (pa_cons (pv 4) pa_nil)) (pa_cons (pv 2) pa_nil)))) pa_nil))))))), ?_⟩
  refine go_start wf mu ha ?_
  have hn : (r.steps.map encS).length = r.steps.length := List.length_map _
  have hl1 := ok.len
  have hl2 := ok'.len
  refine go_seq (go_tupNN en_dK (fun p => (el_listOf (Ms := (p, .dK []) :: Ms) (ev_ixTn 1 (ev_var (by rfl)) ev_int (by rfl)).sqT).n) fun p p2 h0 h02 => ?_)
  refine go_seq (go_for2 s.steps.zipIdx (fun x => .int (x.2 : Int)) (fun x => encS x.1) ((ei_enumT (ev_ixTn 1 (ev_var (by rfl)) ev_int (by rfl))).to ?_)
    (fun i Ms' As' => Ms' = (p2, .lst ((r.steps ++ (s.steps.take i).map (Stp.shift r.inputs r.steps.length)).map encS)) :: (p, .dK (namesD r.steps.length i)) :: Ms ∧ ∃ X2 X5 X6 X7, As' = [some (dp (encR r)), some (dp (encR s)), X2, some (valA (.ref p)), some (valA (.ref p2)), X5, X6, X7]) ⟨by simp [namesD], _, _, _, _, rfl⟩ ?_ ?_)
  · unfold enD
    rw [List.zipIdx_map, List.map_map] <;> rfl
  · rintro Rb hb i pr Ms' As' hx ⟨rfl, X2, X5, X6, X7, rfl⟩
    obtain ⟨st, i'⟩ := pr
    rw [List.getElem?_zipIdx] at hx
    obtain ⟨st', hst, e⟩ := Option.map_eq_some_iff.mp hx
    cases e
    rw [Nat.zero_add]
    have hil := (List.getElem?_eq_some_iff.mp hst).1
    refine go_seq (go_dputK 1 (ev_add (ev_len (ev_ixTn 1 (ev_var (by rfl)) ev_int (by rfl)).sqT) (ev_var (by rfl))) (ev_var (by rfl)) (ev_var (by rfl)) (by rfl) h0 (by simp [namesD]; omega) ?_)
    have e1 : setK (namesD r.steps.length i) (i : Int) (.int (((r.steps.map encS).length : Int) + (i : Int))) = namesD r.steps.length (i + 1) := by rw [hn]; exact setK_names
    rw [e1]
    dsimp only
    refine go_app 0 (d := encS (st.shift r.inputs r.steps.length)) (ev_var (by rfl)) ?_ (by rfl) h02 (by rw [List.length_map, List.length_append, List.length_map, List.length_take]; omega) (go_inv ⟨?_, _, _, _, _, rfl⟩)
    · by_cases hin : ∃ j, st = .inn j
      · obtain ⟨j, rfl⟩ := hin
        exact ev_ifT (et_B (ev_eqs (ev_ixTn 0 (ev_var (by rfl)) ev_int (by rfl)) ev_str)) (by rfl) ((ev_tup2 ev_str (ev_add (ev_ixTn 0 (ev_var (by rfl)) ev_int (by rfl)) (ev_ixTn 1 (ev_var (by rfl)) ev_int (by rfl)))).to (by show PyData.tuple [.str "in", .int ((r.inputs : Int) + (j : Int))] = .tuple [.str "in", .int ((r.inputs + j : Nat) : Int)]; rw [Int.natCast_add]))
      · exact ev_ifF (et_B (ev_eqs (ev_ixTn (d := .str st.word) 0 (ev_var (by rfl)) ev_int (by rfl)) ev_str)) (decide_eq_false (encS_nonin st fun j e => hin ⟨j, e⟩)) (ev_call (ea_cons (ev_var (by rfl)) (ea_cons (Ev.dko (ev_var (by rfl)) (List.mem_cons_of_mem _ List.mem_cons_self)) ea_nil)) (fun vs H Q h => ⟨_, _, r.inputs, r.steps.length, i + 1, st, List.Subset.refl _, fun u hu => by have := ok'.lt i st hst u hu; omega, fun j e => hin ⟨j, e⟩, h⟩))
    · rw [take_snoc hst, List.map_append (l₁ := s.steps.take i), ← List.append_assoc, List.map_append (l₂ := [st].map _)]
      rfl
  · rintro Ms' As' ⟨rfl, X2, X5, X6, X7, rfl⟩
    rw [List.length_zipIdx, List.take_length]
    have hel1 := ok.elen
    have hel2 := ok'.elen
    refine go_seq (go_asg (ev_catT (ev_ends (by rfl)) (ev_tupleOf (el_map s.ends (fun n : Nat => .int (n : Int)) (fun e => .int ((r.steps.length + e : Nat) : Int)) (ei_tup (ev_ends (by rfl))) (fun _ _ => tg_name) (fun e he => ?_) (by omega) (by decide)).ev.ls) (by rw [natsD_len, List.length_map]; omega)) ?_)
    · exact ev_dgetK (Ev.dko (ev_var (by rfl)) (List.mem_cons_of_mem _ List.mem_cons_self)) (ev_var (by rfl)) (namesD_get (ok'.ends e he))
    refine go_ret (by exact q) (ev_call (ea_cons ((ev_tup3 (ev_add (ev_ixTn 0 (ev_var (by rfl)) ev_int (by rfl)) (ev_ixTn 0 (ev_var (by rfl)) ev_int (by rfl))) (ev_tupleOf (Ev.own (ev_var (by rfl)) List.mem_cons_self)) (ev_var (by rfl))).to ?_) ea_nil) (fun vs H Q h => ⟨_, besideR r s, okb, fit, h⟩))
    show PyData.tuple [.int ((r.inputs : Int) + (s.inputs : Int)), .tuple _, .tuple _] = .tuple [.int ((r.inputs + s.inputs : Nat) : Int), .tuple _, .tuple (natsD (r.ends ++ s.ends.map fun e => r.steps.length + e))]
    rw [Int.natCast_add, natsD_app]
    congr 4
    unfold natsD
    rw [List.map_map] <;> rfl
end
end Rb
end
section
set_option Elab.async false
set_option linter.all false
set_option autoImplicit false
set_option maxRecDepth 100000
set_option maxHeartbeats 4000000
namespace Rb
open PySem PySem.Spec PyProof.Rows L2
section
variable {c : Kx} {Ms : MS} {As : AS} {ta tb te : TE} {K : PySem.W.Frag}
/-! ### tables: lists of lists, frozen or one's own -/
def tabA (Ms' : MS) (rows : List (List Nat)) : Asr := ⟨fun G v => Rep G v (.list (rows.map fun r => .list (natsD r))) ∨ ∃ (p : Addr) (qs : List Addr), v = .ref p ∧ (p, Mc.raw (qs.map V.ref)) ∈ Ms' ∧ Paired (fun (q : Addr) (r : List Nat) => (q, Mc.lst (natsD r)) ∈ Ms') qs rows, fun e h => h.imp (fun h => Rep.mono e _ _ h) fun h => h⟩
theorem Ev.tab {rows : List (List Nat)} (h : Ev c Ms As te (dp (.list (rows.map fun r => .list (natsD r))))) : Ev c Ms As te (tabA [] rows) := h.le fun _ _ a => .inl a
theorem paired_get {α β : Type} {F : α → β → Prop} : ∀ {l : List α} {m : List β} {i : Nat} {b : β}, Paired F l m → m[i]? = some b → ∃ a, l[i]? = some a ∧ F a b
  | _, _, i, b, .nil, h => by simp at h
  | _, _, 0, b, .cons h1 _, h => by cases h; exact ⟨_, rfl, h1⟩
  | _, _, i + 1, b, .cons _ t, h => paired_get (i := i) t h
theorem ev_ixTab {Ms' : MS} {rows : List (List Nat)} {n : Nat} {r : List Nat} (ha : Ev c Ms As ta (tabA Ms' rows)) (hb : Ev c Ms As tb (dp (.int (n : Int)))) (hi : rows[n]? = some r) (hs : Ms' ⊆ Ms) : Ev c Ms As (tOp (rIxL K) ta tb) (lsA Ms' (natsD r)) :=
  ev_op ha hb fun H R x y w m a b Q q => by
    cases b
    rcases a with a | ⟨p, qs, rfl, hp, hq⟩
    · have a' : Rep R x (.list (rows.map fun r => .list (natsD r))) := a
      cases a' with
      | lst h1 h2 =>
        obtain ⟨v, hv, rv⟩ := h2.get (i := n) (d := .list (natsD r)) (by rw [List.getElem?_map, hi]; rfl)
        have hl := (List.getElem?_eq_some_iff.mp hv).1
        exact ⟨_, _, (n : Int), v, rfl, rfl, .inl (.inl (w.sub _ _ h1)), by unfold L2.atI; rw [ixN_nat hl]; exact hv, q v H R (.refl w) (.inl rv)⟩
    · obtain ⟨qa, h1, h2⟩ := paired_get hq hi
      have hv : (qs.map V.ref)[n]? = some (.ref qa) := by rw [List.getElem?_map, h1]; rfl
      have hl := (List.getElem?_eq_some_iff.mp hv).1
      exact ⟨_, _, (n : Int), .ref qa, rfl, rfl, .inl (.inl (m.ok _ (hs hp))), by unfold L2.atI; rw [ixN_nat hl]; exact hv, q _ H R (.refl w) (.inr ⟨qa, rfl, h2⟩)⟩
theorem ev_ixTab2 {Ms' : MS} {rows : List (List Nat)} {n m : Nat} {r : List Nat} {tc : TE} (ha : Ev c Ms As ta (tabA Ms' rows)) (hb : Ev c Ms As tb (dp (.int (n : Int)))) (hc : Ev c Ms As tc (dp (.int (m : Int)))) (hi : rows[n]? = some r) (hm : m < r.length) (hs : Ms' ⊆ Ms) : Ev c Ms As (tOp (rIxL K) (tOp (rIxL K) ta tb) tc) (dp (.int (r.getD m 0 : Int))) :=
  ev_ixLn m (ev_ixTab ha hb hi hs) hc (natsD_get (by rw [List.getElem?_eq_getElem hm, List.getD_eq_getElem?_getD, List.getElem?_eq_getElem hm]; rfl)) hs
end
section
variable {P : Program} {w : World} {K : PySem.W.Frag} {mg : Str → Option Value} {base : Heap}
/-! ### best_parting -/
def prN (p : Nat × Nat) : PyData := prD ((p.1 : Int), (p.2 : Int))
abbrev sBestParting : Stmt := topS 47
abbrev nBestParting : List Str := ["table", "spots", "pebbles", "found", "middle", "there", "back"]
theorem scBestParting : FnScope nBestParting ["table", "spots", "pebbles"] (defScope sBestParting) := ⟨rfl, rfl, rfl, by decide +kernel, rfl, by decide +kernel, by decide +kernel⟩
def spBestParting : Sp := fun vs H Q _ => ∃ (Ms Ms' : MS) (rows : List (List Nat)) (s p : Nat) (cur prev : List Nat), Ms' ⊆ Ms ∧ rows[p + 1]? = some cur ∧ rows[p]? = some prev ∧ s ≤ 1000 ∧ s ≤ cur.length ∧ s ≤ prev.length ∧
  Pu Ms [tabA Ms' rows, dp (.int (s : Int)), dp (.int ((p + 1 : Nat) : Int))] (dp (prN (parting cur prev s))) vs H Q
theorem cal_best_parting (T : Txt K mg) : C8.Cal P w K mg base 1 "best_parting" spBestParting [] := by
  refine mk_cal (x := "best_parting") (i := 47) (j := 32) T rfl scBestParting (fun _ _ _ _ _ _ us hl => match us, hl with | [_, _, _], _ => rfl) (fun vs H Q E h => ?_) (fun f cdv A outer s H vs Q E hr h => ?_)
  · obtain ⟨Ms, Ms', rows, s, p, cur, prev, _, _, _, _, _, _, R, _, _, h, _⟩ := h
    exact (paired_len h).trans rfl
  obtain ⟨Ms, Ms', rows, n, p, cur, prev, sub, hc, hp, hn, lc, lp, R, wf, mu, ha, q⟩ := h
  refine ⟨_, (pss_cons (ps_set (i := 3) scBestParting.nd rfl (by first | exact Or.inl rfl | exact Or.inr rfl) (pe_tup (pa_cons (C8.pe_gc rfl T.k_NEVER) (pa_cons pe_int pa_nil))))
      (pss_cons (ps_for PassesOwn.never rfl (pi_range2 rfl T.b_range (pa_cons pe_int (pa_cons (pv 1) pa_nil))) (pg_name (i := 4) scBestParting.nd rfl (by first | exact Or.inl rfl | exact Or.inr rfl))
      (pss_cons (ps_par (i := 5) (j := 6) rfl scBestParting.nd rfl rfl (by decide) rfl rfl (pa_cons (pe_ix (k_ix_list K) (pe_ix (k_ix_list K) (pv 0) (pv 2) (fun _ _ => rfl)) (pv 4) (fun _ _ => rfl)) (pa_cons (pe_ix (k_ix_list K) (pe_ix (k_ix_list K) (pv 0) (pe_op op_sub (pv 2) pe_int) (fun _ _ => rfl)) (pv 4) (fun _ _ => rfl)) pa_nil)) (by rfl))
      (pss_one (ps_set (i := 3) scBestParting.nd rfl (by first | exact Or.inl rfl | exact Or.inr rfl) (pe_callB (call_minT2 rfl hr.units) (by rfl) T.b_min b_min (pa_cons (pv 3) (pa_cons (pe_tup (pa_cons (pe_callB (call_min2 rfl) (by rfl) T.b_min b_min (pa_cons (C8.pe_gc rfl T.k_NEVER) (pa_cons (pe_op op_add (pe_op op_add (pv 5) (pv 6)) (pe_ix (k_ix_list K) (pe_ix (k_ix_list K) (pv 0) (pe_op op_sub (pv 2) pe_int) (fun _ _ => rfl)) (pe_op op_sub (pv 1) (pv 4)) (fun _ _ => rfl))) pa_nil))) (pa_cons (pv 4) pa_nil))) pa_nil)))))))
      (pss_one (ps_ret (pv 3))))), ?_⟩
  refine go_start wf mu ha ?_
  refine go_seq (go_asg ((ev_tup2 (ev_int (i := 1000000000000000000000000000000)) ev_int).to (show _ = prN (NV, 0) from rfl)) ?_)
  refine go_seq (go_forE (List.range (n - 1)) (fun i : Nat => .int ((i + 1 : Nat) : Int)) ((ei_r2 ev_int (ev_var (by rfl)) (by omega) (by omega)).to ?_)
    (fun i Ms2 As2 => Ms2 = Ms ∧ ∃ X4 X5 X6, As2 = [some (tabA Ms' rows), some (dp (.int (n : Int))), some (dp (.int ((p + 1 : Nat) : Int))), some (dp (prN (partUp cur prev n i))), X4, X5, X6]) ⟨rfl, _, _, _, rfl⟩ ?_ ?_)
  · unfold rgD
    rw [show ((n : Int) - 1).toNat = n - 1 by omega]
    refine List.map_congr_left fun i _ => ?_
    congr 1
    omega
  · rintro Rb hb i x Ms2 As2 hx ⟨rfl, X4, X5, X6, rfl⟩
    obtain ⟨hi, rfl⟩ := range_get hx
    have ep : ((p + 1 : Nat) : Int) - 1 = (p : Int) := by omega
    refine go_seq (go_par (ea_cons (ev_ixTab2 (m := i + 1) (ev_var (by rfl)) (ev_var (by rfl)) (ev_var (by rfl)) hc (by omega) sub) (ea_cons (ev_ixTab2 (n := p) (m := i + 1) (ev_var (by rfl)) ((ev_sub (ev_var (by rfl)) ev_int).to (by rw [ep])) (ev_var (by rfl)) hp (by omega) sub) ea_nil)) ?_)
    dsimp only
    refine go_asg (Ev.to (e := prN (partUp cur prev n (i + 1))) (ev_minT2 (p := (((partUp cur prev n i).1 : Int), ((partUp cur prev n i).2 : Int))) (q := (min (1000000000000000000000000000000 : Int) ((cur.getD (i + 1) 0 : Int) + (prev.getD (i + 1) 0 : Int) + (prev.getD (n - (i + 1)) 0 : Int)), ((i + 1 : Nat) : Int))) (ev_var (by rfl)) (ev_tup2 (ev_min2 (ev_int (i := 1000000000000000000000000000000)) (ev_add (ev_add (ev_var (by rfl)) (ev_var (by rfl))) (ev_ixTab2 (n := p) (m := n - (i + 1)) (ev_var (by rfl)) ((ev_sub (ev_var (by rfl)) ev_int).to (by rw [ep])) ((ev_sub (ev_var (by rfl)) (ev_var (by rfl))).to (by congr 1; omega)) hp (by omega) sub))) (ev_var (by rfl)))) ?_) (go_inv ⟨rfl, _, _, _, rfl⟩)
    have e : (min (1000000000000000000000000000000 : Int) ((cur.getD (i + 1) 0 : Int) + (prev.getD (i + 1) 0 : Int) + (prev.getD (n - (i + 1)) 0 : Int))) = (partAt cur prev n (i + 1) : Int) := by
      unfold partAt NV
      omega
    show prD (if ltPr (min (1000000000000000000000000000000 : Int) ((cur.getD (i + 1) 0 : Int) + (prev.getD (i + 1) 0 : Int) + (prev.getD (n - (i + 1)) 0 : Int)), ((i + 1 : Nat) : Int)) (((partUp cur prev n i).1 : Int), ((partUp cur prev n i).2 : Int)) then _ else _) = prN (minP (partUp cur prev n i) (partAt cur prev n (i + 1), i + 1))
    rw [e]
    have el : ltPr ((partAt cur prev n (i + 1) : Int), ((i + 1 : Nat) : Int)) (((partUp cur prev n i).1 : Int), ((partUp cur prev n i).2 : Int)) = ltN (partAt cur prev n (i + 1), i + 1) (partUp cur prev n i) := by
      unfold ltPr ltN
      refine decide_eq_decide.mpr ?_
      dsimp only
      omega
    rw [el]
    unfold minP
    split
    · rfl
    · rfl
  · rintro Ms2 As2 ⟨rfl, X4, X5, X6, rfl⟩
    rw [List.length_range]
    exact go_ret (by exact q) (ev_var (by rfl))
/-! ### least_acts -/
abbrev sLeastActs : Stmt := topS 48
abbrev nLeastActs : List Str := ["spots", "pebbles", "table", "number", "size"]
theorem scLeastActs : FnScope nLeastActs ["spots", "pebbles"] (defScope sLeastActs) := ⟨rfl, rfl, rfl, by decide +kernel, rfl, by decide +kernel, by decide +kernel⟩
def tabD (rows : List (List Nat)) : PyData := .list (rows.map fun r => .list (natsD r))
def spLeastActs : Sp := fun vs H Q _ => ∃ (Ms : MS) (s p : Nat), 1 ≤ s ∧ s ≤ 60 ∧ p ≤ 60 ∧ Pu Ms [dp (.int (s : Int)), dp (.int (p : Int))] (dp (tabD (table s p))) vs H Q
/-- the own rows, the last first -/
def rowsM (qs : List Addr) (rows : List (List Nat)) : MS := (qs.zip rows).reverse.map fun e => (e.1, Mc.lst (natsD e.2))
theorem rowsM_len {qs : List Addr} {rows : List (List Nat)} (h : qs.length = rows.length) : (rowsM qs rows).length = rows.length := by simp [rowsM, h]
theorem rowsM_snoc {qs : List Addr} {rows : List (List Nat)} (h : qs.length = rows.length) (q : Addr) (r : List Nat) : rowsM (qs ++ [q]) (rows ++ [r]) = (q, Mc.lst (natsD r)) :: rowsM qs rows := by
  unfold rowsM
  rw [List.zip_append h, List.reverse_append]
  rfl
theorem rowsM_mem : ∀ {qs : List Addr} {rows : List (List Nat)} (M : MS), (∀ e ∈ qs.zip rows, (e.1, Mc.lst (natsD e.2)) ∈ M) → qs.length = rows.length → Paired (fun (q : Addr) (r : List Nat) => (q, Mc.lst (natsD r)) ∈ M) qs rows
  | [], [], _, _, _ => .nil
  | [], _ :: _, _, _, h => by simp at h
  | _ :: _, [], _, _, h => by simp at h
  | q :: qs, r :: rows, M, hM, h => .cons (hM (q, r) List.mem_cons_self) (rowsM_mem M (fun e he => hM e (List.mem_cons_of_mem _ he)) (by simpa using h))
theorem tab_own {c : Kx} {Ms : MS} {As : AS} {te : TE} {qs : List Addr} {rows : List (List Nat)} {p : Addr} (h : Ev c (rowsM qs rows ++ (p, .raw (qs.map V.ref)) :: Ms) As te (valA (.ref p))) (hl : qs.length = rows.length) : Ev c (rowsM qs rows ++ (p, .raw (qs.map V.ref)) :: Ms) As te (tabA (rowsM qs rows ++ (p, .raw (qs.map V.ref)) :: Ms) rows) :=
  h.le fun R v a => .inr ⟨p, qs, a, by simp, rowsM_mem _ (fun e he => List.mem_append_left _ (List.mem_map.mpr ⟨e, List.mem_reverse.mpr he, rfl⟩)) hl⟩
theorem rowUp_succ (prev : List Nat) (s k : Nat) : rowUp prev s (k + 1) = (rowUp prev s k).set (k + 2) (parting (rowUp prev s k) prev (k + 2)).1 := rfl
theorem rowsM_set {qs : List Addr} {rows : List (List Nat)} (h : qs.length = rows.length) (q : Addr) (r r' : List Nat) : (rowsM (qs ++ [q]) (rows ++ [r])).set 0 (q, Mc.lst (natsD r')) = rowsM (qs ++ [q]) (rows ++ [r']) := by
  rw [rowsM_snoc h, rowsM_snoc h]
  rfl
theorem natsD_set (l : List Nat) (i v : Nat) : (natsD l).set i (.int (v : Int)) = natsD (l.set i v) := by
  unfold natsD
  rw [List.map_set]
theorem rep_nats (k v : Nat) : List.replicate k (PyData.int (v : Int)) = natsD (List.replicate k v) := by
  unfold natsD
  rw [List.map_replicate]
theorem go_appN {c : Kx} {H0 R0 : Hp} {Ms : MS} {As : AS} {ta te : TE} {D : Ends} {p : Addr} {vs : List V} {m : Mc} (k : Nat) (hx : Ev c Ms As ta (valA (.ref p))) (he : EvN c Ms As te m) (hk : Ms[k]? = some (p, .raw vs)) (h0 : H0 p = none) (hl : vs.length < 100000)
    (h : ∀ q, H0 q = none → Go c H0 R0 ((q, m) :: Ms.set k (p, .raw (vs ++ [.ref q]))) As D.nx) : Go c H0 R0 Ms As (tDrop (tBM K "list" rAppend ta (tCons te tNil)) D) := fun σ H R g s =>
  hx.bind s fun x H1 R1 g1 s1 a => by
    cases a
    have hv := s1.mu.ok _ (List.mem_of_getElem? hk)
    refine ⟨.inl ⟨rfl, vs, .inl (.inl hv)⟩, he σ H1 R1 s1 _ fun q H2 R2 g2 hq0 hn hm => ?_⟩
    have s2 := s1.own g2 hq0 hn hm
    have hk' : ((q, m) :: Ms)[k + 1]? = some (p, .raw vs) := hk
    have hu := s2.mu.ok _ (List.mem_of_getElem? hk')
    exact ⟨p, vs, .ref q, rfl, rfl, hu, Nat.lt_trans hl (by decide), go_put ((g.trans' g1).trans' g2) s2 hk' h0 (o := HO.lst (vs ++ [V.ref q])) (m' := Mc.raw (vs ++ [V.ref q])) (fun H' hH => show H' p = some (HO.lst (vs ++ [V.ref q])) from hH) (h q (g.back (g1.back hq0)))⟩
theorem go_frzTab {c : Kx} {H0 R0 : Hp} {Ms ls : MS} {As : AS} {C : L2.St → Hp → Prop} {p : Addr} {vs : List V} {ds : List PyData} (h0 : ∀ e ∈ ls, H0 e.1 = none) (hr : ∀ R, (∀ e ∈ ls, (frz e.2).h R (.ref e.1)) → Reps R vs ds) (h : Go c H0 R0 ((p, .lst ds) :: Ms) As C) : Go c H0 R0 (ls ++ (p, .raw vs) :: Ms) As C := fun σ H R g s => by
  obtain ⟨R', r2, f2, s2, h2⟩ := Sit.frzAll ls s
  refine h σ H R' ⟨g.gr, g.rr.trans r2, fun x o hx => ?_, s2.wf⟩ ⟨s2.wf, ⟨s2.mu.nd, fun e he => ?_, fun e he => ?_, fun e he => ?_⟩, s2.sl⟩
  · rcases f2 x o hx with h | h
    · exact g.fr x o h
    · obtain ⟨e, he, rfl⟩ := List.mem_map.mp h
      exact .inr (.inl (h0 e he))
  · rcases List.mem_cons.mp he with rfl | he
    · exact s2.mu.off (p, .raw vs) List.mem_cons_self
    · exact s2.mu.off e (List.mem_cons_of_mem _ he)
  · rcases List.mem_cons.mp he with rfl | he
    · exact s2.mu.hid (p, .raw vs) List.mem_cons_self
    · exact s2.mu.hid e (List.mem_cons_of_mem _ he)
  · rcases List.mem_cons.mp he with rfl | he
    · exact ⟨vs, s2.mu.ok (p, .raw vs) List.mem_cons_self, hr R' h2⟩
    · exact s2.mu.ok e (List.mem_cons_of_mem _ he)
theorem table_succ (s p : Nat) : table s (p + 1) = table s p ++ [tabRow s (p + 1)] := by
  unfold table
  rw [List.range_succ, List.map_append]
  rfl
theorem table_len (s p : Nat) : (table s p).length = p + 1 := by unfold table; rw [List.length_map, List.length_range]
/-- [[..]]: a list of one own list -/
theorem en_lst1 {c : Kx} {Ms : MS} {As : AS} {te : TE} {m : Mc} (h : EvN c Ms As te m) (Q : VK) (σ : L2.St) (H R : Hp) (s : Sit c Ms As σ H R) (q : ∀ p q H' R', Grow c H R H' R' → H p = none → H q = none → Sit c ((q, m) :: (p, .raw [.ref q]) :: Ms) As σ H' R' → Q (.ref p) H') : tLst (tCons te tNil) σ H Q := by
  unfold tLst
  refine h σ H R s _ fun a H1 R1 g1 ha hn hm => ?_
  have s1 := s.own g1 ha hn hm
  refine ⟨by show 1 ≤ sizeLine; decide, fun b hb => ?_⟩
  have g2 : Grow c H1 R1 (upd H1 b (.lst [.ref a])) R1 := .lay g1.wf hb
  have s2 := s1.own (m := .raw [.ref a]) g2 hb (g1.wf.none hb) upd_same
  have s3 : Sit c ((a, m) :: (b, .raw [.ref a]) :: Ms) As σ (upd H1 b (.lst [.ref a])) R1 := by
    refine ⟨s2.wf, ⟨?_, fun e he => ?_, fun e he => ?_, fun e he => ?_⟩, s2.sl⟩
    · have := s2.mu.nd
      simp only [List.map_cons, List.nodup_cons, List.mem_cons, not_or] at this ⊢
      exact ⟨⟨fun z => this.1.1 z.symm, this.2.1⟩, this.1.2, this.2.2⟩
    all_goals
      have he' : e ∈ (b, Mc.raw [.ref a]) :: (a, m) :: Ms := by
        simp only [List.mem_cons] at he ⊢
        rcases he with h | h | h
        · exact .inr (.inl h)
        · exact .inl h
        · exact .inr (.inr h)
      first | exact s2.mu.off e he' | exact s2.mu.hid e he' | exact s2.mu.ok e he'
  exact q b a _ R1 (g1.trans' g2) (g1.back hb) ha s3
theorem go_asgL1 {c : Kx} {H0 R0 : Hp} {Ms : MS} {As : AS} {te : TE} {D : Ends} {m : Mc} {i : Nat} (h : EvN c Ms As te m) (k : ∀ p q, H0 p = none → H0 q = none → Go c H0 R0 ((q, m) :: (p, .raw [.ref q]) :: Ms) (As.set i (some (valA (.ref p)))) D.nx) : Go c H0 R0 Ms As (tAsg (tLst (tCons te tNil)) (gName i) D) := fun σ H R g s => by
  unfold tAsg
  exact en_lst1 h _ σ H R s fun p q H' R' g' hp hq s' => k p q (g.back hp) (g.back hq) _ H' R' (g.trans' g') ⟨s'.wf, s'.mu, s'.sl.set i rfl⟩
theorem cal_least_acts (T : Txt K mg) (c_best_parting : C8.Cal P w K mg base 1 "best_parting" spBestParting []) : C8.Cal P w K mg base 2 "least_acts" spLeastActs [] := by
  refine mk_cal (x := "least_acts") (i := 48) (j := 33) T rfl scLeastActs (fun _ _ _ _ _ _ us hl => match us, hl with | [_, _], _ => rfl) (fun vs H Q E h => ?_) (fun f cdv A outer s H vs Q E hr h => ?_)
  · obtain ⟨Ms, n, k, _, _, _, R, _, _, h, _⟩ := h
    exact (paired_len h).trans rfl
  obtain ⟨Ms, n, k, n1, n60, k60, R, wf, mu, ha, q⟩ := h
  refine ⟨_, (pss_cons (ps_set (i := 2) scLeastActs.nd rfl (by first | exact Or.inl rfl | exact Or.inr rfl) (pe_lst (pa_cons (pe_op op_rep (pe_lst (pa_cons (C8.pe_gc rfl T.k_NEVER) pa_nil)) (pe_op op_add (pv 0) pe_int)) pa_nil)))
      (pss_cons (ps_for PassesOwn.never rfl (pi_range2 rfl T.b_range (pa_cons pe_int (pa_cons (pe_op op_add (pv 1) pe_int) pa_nil))) (pg_name (i := 3) scLeastActs.nd rfl (by first | exact Or.inl rfl | exact Or.inr rfl))
      (pss_cons (ps_expr (k_bm K PySem.F.plainAttrs_list PySem.F.slot_list_append PySem.F.type_list_append mt_append (pv 2) (pa_cons (pe_op op_cat (pe_lst (pa_cons (C8.pe_gc rfl T.k_NEVER) (pa_cons pe_int pa_nil))) (pe_op op_rep (pe_lst (pa_cons (C8.pe_gc rfl T.k_NEVER) pa_nil)) (pe_op op_sub (pv 0) pe_int))) pa_nil)))
      (pss_one (ps_for PassesOwn.never rfl (pi_range2 rfl T.b_range (pa_cons pe_int (pa_cons (pe_op op_add (pv 0) pe_int) pa_nil))) (pg_name (i := 4) scLeastActs.nd rfl (by first | exact Or.inl rfl | exact Or.inr rfl))
      (pss_one (ps_asg (pe_ix (k_ix_tup K) (C8.pe_c c_best_parting hr (by decide) rfl (pa_cons (pv 2) (pa_cons (pv 4) (pa_cons (pv 3) pa_nil)))) pe_int (fun _ _ => rfl)) (pg_sub (pe_ix (k_ix_list K) (pv 2) (pv 3) (fun _ _ => rfl)) (pv 4) set_list)))))))
      (pss_one (ps_ret (pv 2))))), ?_⟩
  refine go_start wf mu ha ?_
  refine go_seq (go_asgL1 (m := .lst (natsD (tabRow n 0))) (EvL.n ((el_rep (el_lst1 (ev_int (i := (NV : Int)))) (ev_add (ev_var (by rfl)) ev_int) (by omega)).to (by rw [show ((n : Int) + 1).toNat = n + 1 by omega, rep_nats]; rfl))) fun p q0 h0 hq0 => ?_)
  refine go_seq (go_forE (List.range k) (fun i : Nat => .int ((i + 1 : Nat) : Int)) ((ei_r2 ev_int (ev_add (ev_var (by rfl)) ev_int) (by omega) (by omega)).to ?_)
    (fun i Ms' As' => ∃ qs : List Addr, qs.length = i + 1 ∧ (∀ q ∈ qs, H q = none) ∧ Ms' = rowsM qs (table n i) ++ (p, .raw (qs.map V.ref)) :: Ms ∧ ∃ X3 X4, As' = [some (dp (.int (n : Int))), some (dp (.int (k : Int))), some (valA (.ref p)), X3, X4]) ⟨[q0], rfl, fun q hq => by rw [List.mem_singleton.mp hq]; exact hq0, rfl, _, _, rfl⟩ ?_ ?_)
  · unfold rgD
    rw [show ((k : Int) + 1 - 1).toNat = k by omega]
    refine List.map_congr_left fun i _ => ?_
    congr 1
    omega
  · rintro Rb hb i x Ms' As' hx ⟨qs, hql, hqn, rfl, X3, X4, rfl⟩
    obtain ⟨hi, rfl⟩ := range_get hx
    have htl : qs.length = (table n i).length := by rw [table_len]; exact hql
    have hk1 : (rowsM qs (table n i) ++ (p, Mc.raw (qs.map V.ref)) :: Ms)[(table n i).length]? = some (p, .raw (qs.map V.ref)) := by
      rw [List.getElem?_append_right (by rw [rowsM_len htl]; exact Nat.le_refl _), rowsM_len htl, Nat.sub_self]
      rfl
    refine go_seq (go_appN (table n i).length (ev_var (by rfl)) (m := .lst (natsD (rowStart n))) (EvL.n ((el_cat (el_lst2 (ev_int (i := (NV : Int))) (ev_int (i := 1))).ev.ls (el_rep (el_lst1 (ev_int (i := (NV : Int)))) (ev_sub (ev_var (by rfl)) ev_int) (by omega)).ev.ls (by rw [List.length_replicate]; simp; omega)).to ?_)) hk1 h0 (by rw [List.length_map]; omega) fun q hq => ?_)
    · rw [show ((n : Int) - 1).toNat = n - 1 by omega, rep_nats]
      unfold rowStart
      rw [natsD_app]
      rfl
    have em : (q, Mc.lst (natsD (rowStart n))) :: (rowsM qs (table n i) ++ (p, Mc.raw (qs.map V.ref)) :: Ms).set (table n i).length (p, .raw (qs.map V.ref ++ [.ref q])) = rowsM (qs ++ [q]) (table n i ++ [rowUp (tabRow n i) n 0]) ++ (p, .raw ((qs ++ [q]).map V.ref)) :: Ms := by
      rw [rowsM_snoc htl, List.set_append_right _ _ (by rw [rowsM_len htl]; exact Nat.le_refl _), rowsM_len htl, Nat.sub_self, List.map_append]
      rfl
    rw [em]
    dsimp only
    have hprev : ∀ r : List Nat, (table n i ++ [r])[i]? = some (tabRow n i) := fun r => by
      rw [List.getElem?_append_left (by rw [table_len]; omega)]
      exact table_get (Nat.le_refl i)
    have hcur : ∀ r : List Nat, (table n i ++ [r])[i + 1]? = some r := fun r => by
      rw [List.getElem?_append_right (by rw [table_len]; omega), table_len, Nat.sub_self]
      rfl
    have hl2 : ∀ r : List Nat, (qs ++ [q]).length = (table n i ++ [r]).length := fun r => by
      rw [List.length_append, List.length_append, htl]
      rfl
    refine go_forE (List.range (n - 1)) (fun j : Nat => .int ((j + 2 : Nat) : Int)) ((ei_r2 ev_int (ev_add (ev_var (by rfl)) ev_int) (by omega) (by omega)).to ?_)
      (fun j Ms' As' => Ms' = rowsM (qs ++ [q]) (table n i ++ [rowUp (tabRow n i) n j]) ++ (p, .raw ((qs ++ [q]).map V.ref)) :: Ms ∧ ∃ X4, As' = [some (dp (.int (n : Int))), some (dp (.int (k : Int))), some (valA (.ref p)), some (dp (.int ((i + 1 : Nat) : Int))), X4]) ⟨rfl, _, rfl⟩ ?_ ?_
    · unfold rgD
      rw [show ((n : Int) + 1 - 2).toNat = n - 1 by omega]
      refine List.map_congr_left fun i _ => ?_
      congr 1
      omega
    · rintro Rb' hb' j y Ms' As' hy ⟨rfl, X4, rfl⟩
      obtain ⟨hj, rfl⟩ := range_get hy
      have lc := rowUp_len (tabRow n i) n1 j
      have lp := tabRow_len n1 i
      have hk0 : (rowsM (qs ++ [q]) (table n i ++ [rowUp (tabRow n i) n j]) ++ (p, Mc.raw ((qs ++ [q]).map V.ref)) :: Ms)[0]? = some (q, .lst (natsD (rowUp (tabRow n i) n j))) := by
        rw [rowsM_snoc htl]
        rfl
      have hraw : ((qs ++ [q]).map V.ref)[i + 1]? = some (.ref q) := by
        rw [List.getElem?_map, List.getElem?_append_right (by omega), hql, Nat.sub_self]
        rfl
      refine go_setL 0 (i := j + 2) (ev_ixTn (d := .int ((parting (rowUp (tabRow n i) n j) (tabRow n i) (j + 2)).1 : Int)) 0 (ev_call (r := dp (prN (parting (rowUp (tabRow n i) n j) (tabRow n i) (j + 2)))) (ea_cons (tab_own (ev_var (by rfl)) (hl2 _)) (ea_cons (ev_var (by rfl)) (ea_cons (ev_var (by rfl)) ea_nil)))
        (fun vs H Q h => ⟨_, _, _, j + 2, i, _, _, List.Subset.refl _, hcur _, hprev _, by omega, by omega, by omega, h⟩)) ev_int (by rfl)) (ev_ixR (i + 1) (ev_var (by rfl)) (ev_var (by rfl)) (by simp) hraw) (ev_var (by rfl)) hk0 hq (by rw [natsD_len]; omega) (go_inv ⟨?_, _, rfl⟩)
      rw [natsD_set, rowsM_snoc htl, rowsM_snoc htl]
      rfl
    · rintro Ms' As' ⟨rfl, X4, rfl⟩
      rw [List.length_range]
      refine go_inv ⟨qs ++ [q], by rw [List.length_append, hql]; rfl, fun z hz => ?_, ?_, _, _, rfl⟩
      · rcases List.mem_append.mp hz with hz | hz
        · exact hqn z hz
        · rw [List.mem_singleton.mp hz]; exact hq
      · rw [table_succ]
        rfl
  · rintro Ms' As' ⟨qs, hql, hqn, rfl, X3, X4, rfl⟩
    rw [List.length_range] at hql ⊢
    have htl : qs.length = (table n k).length := by rw [table_len]; exact hql
    refine go_frzTab (ds := (table n k).map fun r => .list (natsD r)) (fun e he => ?_) (fun R hR => ?_) ?_
    · obtain ⟨z, hz, rfl⟩ := List.mem_map.mp he
      exact hqn _ (List.of_mem_zip (List.mem_reverse.mp hz)).1
    · have key : ∀ (qs : List Addr) (rows : List (List Nat)), qs.length = rows.length → (∀ e ∈ qs.zip rows, (dp (.list (natsD e.2))).h R (.ref e.1)) → Reps R (qs.map V.ref) (rows.map fun r => .list (natsD r)) := by
        intro qs
        induction qs with
        | nil =>
          intro rows h _
          cases rows with
          | nil => exact .nil
          | cons _ _ => cases h
        | cons q qs ih =>
          intro rows h hh
          cases rows with
          | nil => cases h
          | cons r rows => exact .cons (hh (q, r) List.mem_cons_self) (ih rows (by simpa using h) fun e he => hh e (List.mem_cons_of_mem _ he))
      exact key qs _ htl fun e he => hR (e.1, .lst (natsD e.2)) (List.mem_map.mpr ⟨e, List.mem_reverse.mpr he, rfl⟩)
    · exact go_frz (i := 2) (by rfl) h0 (go_ret (by exact q) (ev_var (by rfl)))
end
end Rb
end
section
set_option Elab.async false
set_option linter.all false
set_option autoImplicit false
set_option maxRecDepth 100000
set_option maxHeartbeats 4000000
namespace Rb
open PySem PySem.Spec PyProof.Rows L2
section
variable {P : Program} {w : World} {K : PySem.W.Frag} {mg : Str → Option Value} {base : Heap}
/-! ### pebbles_needed -/
abbrev sPebblesNeeded : Stmt := topS 49
abbrev nPebblesNeeded : List Str := ["spots", "found", "most"]
theorem scPebblesNeeded : FnScope nPebblesNeeded ["spots"] (defScope sPebblesNeeded) := ⟨rfl, rfl, rfl, by decide +kernel, rfl, by decide +kernel, by decide +kernel⟩
def spPebblesNeeded : Sp := fun vs H Q _ => ∃ (Ms : MS) (s : Nat), s ≤ 60 ∧ Pu Ms [dp (.int (s : Int))] (dp (.int (pebN s : Int))) vs H Q
theorem pebN_at {s k : Nat} (h60 : s ≤ 60) (h1 : k = 0 ∨ 2 ^ (k - 1) < s) (h2 : s ≤ 2 ^ k) : k + 1 = pebN s := by
  have hk : k ≤ 6 := by
    rcases h1 with h | h
    · omega
    · rcases Nat.lt_or_ge 6 k with c | c
      · have : 2 ^ 6 ≤ 2 ^ (k - 1) := Nat.pow_le_pow_right (by omega) (by omega)
        omega
      · exact c
  match k, hk, h1, h2 with
  | 0, _, _, h2 => unfold pebN; rw [if_pos (by omega)]
  | 1, _, h1, h2 => unfold pebN; rw [if_neg (by omega), if_pos (by omega)]
  | 2, _, h1, h2 => unfold pebN; rw [if_neg (by omega), if_neg (by omega), if_pos (by omega)]
  | 3, _, h1, h2 => unfold pebN; rw [if_neg (by omega), if_neg (by omega), if_neg (by omega), if_pos (by omega)]
  | 4, _, h1, h2 => unfold pebN; rw [if_neg (by omega), if_neg (by omega), if_neg (by omega), if_neg (by omega), if_pos (by omega)]
  | 5, _, h1, h2 => unfold pebN; rw [if_neg (by omega), if_neg (by omega), if_neg (by omega), if_neg (by omega), if_neg (by omega), if_pos (by omega)]
  | 6, _, h1, h2 => unfold pebN; rw [if_neg (by omega), if_neg (by omega), if_neg (by omega), if_neg (by omega), if_neg (by omega), if_neg (by omega)]
  | k + 7, hk, _, _ => exact absurd hk (by omega)
theorem cal_pebbles_needed (T : Txt K mg) : C8.Cal P w K mg base 1 "pebbles_needed" spPebblesNeeded [] := by
  refine mk_cal (x := "pebbles_needed") (i := 49) (j := 34) T rfl scPebblesNeeded (fun _ _ _ _ _ _ us hl => match us, hl with | [_], _ => rfl) (fun vs H Q E h => ?_) (fun f cdv A outer s H vs Q E hr h => ?_)
  · obtain ⟨Ms, n, _, R, _, _, h, _⟩ := h
    exact (paired_len h).trans rfl
  obtain ⟨Ms, n, n60, R, wf, mu, ha, q⟩ := h
  refine ⟨_, (pss_cons (ps_asg (pe_tup (pa_cons pe_int (pa_cons pe_int pa_nil))) (k_pg_tup K (n := 2) rfl (pgs_cons (pg_name (i := 1) scPebblesNeeded.nd rfl (by first | exact Or.inl rfl | exact Or.inr rfl)) (pgs_cons (pg_name (i := 2) scPebblesNeeded.nd rfl (by first | exact Or.inl rfl | exact Or.inr rfl)) pgs_nil))))
      (pss_cons (ps_while PassesOwn.never (pt_cmpR op_lt (pv 2) (pv 0) (nomark _))
      (pss_cons (ps_set (i := 1) scPebblesNeeded.nd rfl (by first | exact Or.inl rfl | exact Or.inr rfl) (pe_op op_add (pv 1) pe_int))
      (pss_one (ps_set (i := 2) scPebblesNeeded.nd rfl (by first | exact Or.inl rfl | exact Or.inr rfl) (pe_op op_mul pe_int (pv 2))))))
      (pss_one (ps_ret (pv 1))))), ?_⟩
  refine go_start wf mu ha ?_
  refine go_seq (go_tup2 (ea_cons ev_int (ea_cons ev_int ea_nil)) ?_)
  refine go_seq (go_while (fun (k : Nat) Ms' As' => (k = 0 ∨ 2 ^ (k - 1) < n) ∧ k ≤ 6 ∧ Ms' = Ms ∧ As' = [some (dp (.int (n : Int))), some (dp (.int ((k + 1 : Nat) : Int))), some (dp (.int ((2 ^ k : Nat) : Int)))]) (fun k => 10 - k) 0 ⟨.inl rfl, by omega, rfl, rfl⟩ ?_)
  rintro k Ms' As' ⟨h1, h6, rfl, rfl⟩
  refine ⟨_, et_B (ev_lt (ev_var (by rfl)) (ev_var (by rfl))), fun hb => ?_, fun hb => ?_⟩
  · have hlt : 2 ^ k < n := by have := of_decide_eq_true hb; omega
    have h5 : k ≤ 5 := by
      rcases Nat.lt_or_ge 5 k with c | c
      · have : 2 ^ 6 ≤ 2 ^ k := Nat.pow_le_pow_right (by omega) (by omega)
        omega
      · exact c
    have e2 : 2 ^ (k + 1) = 2 * 2 ^ k := by rw [Nat.pow_succ]; omega
    dsimp only
    refine go_seq (go_asg ((ev_add (ev_var (by rfl)) ev_int).to (e := .int ((k + 1 + 1 : Nat) : Int)) (by congr 1)) ?_)
    dsimp only
    refine go_asg (Ev.to (e := .int ((2 ^ (k + 1) : Nat) : Int)) (ev_mul ev_int (ev_var (by rfl)) (Or.inl (by decide))) ?_) (go_inv ⟨k + 1, by show 10 - (k + 1) < 10 - k; omega, .inr hlt, by omega, rfl, rfl⟩)
    congr 1
    rw [e2]
    omega
  · have hge : n ≤ 2 ^ k := by have := of_decide_eq_false hb; omega
    dsimp only
    exact go_ret (by exact q) ((ev_var (by rfl)).to (by rw [pebN_at n60 h1 hge]))
/-! ### acts_needed -/
abbrev sActsNeeded : Stmt := topS 50
abbrev nActsNeeded : List Str := ["spots", "pebbles", "many", "found"]
theorem scActsNeeded : FnScope nActsNeeded ["spots", "pebbles"] (defScope sActsNeeded) := ⟨rfl, rfl, rfl, by decide +kernel, rfl, by decide +kernel, by decide +kernel⟩
def spActsNeeded : Sp := fun vs H Q _ => ∃ (Ms : MS) (s p : Nat), 1 ≤ s ∧ s ≤ 60 ∧ p ≤ 60 ∧ Pu Ms [dp (.int (s : Int)), dp (.int (p : Int))] (dp (actsD s p)) vs H Q
theorem min_cast (a b : Nat) : min (a : Int) (b : Int) = ((min a b : Nat) : Int) := by omega
theorem cal_acts_needed (T : Txt K mg) (c_least_acts : C8.Cal P w K mg base 2 "least_acts" spLeastActs []) : C8.Cal P w K mg base 3 "acts_needed" spActsNeeded [] := by
  refine mk_cal (x := "acts_needed") (i := 50) (j := 35) T rfl scActsNeeded (fun _ _ _ _ _ _ us hl => match us, hl with | [_, _], _ => rfl) (fun vs H Q E h => ?_) (fun f cdv A outer s H vs Q E hr h => ?_)
  · obtain ⟨Ms, n, k, _, _, _, R, _, _, h, _⟩ := h
    exact (paired_len h).trans rfl
  obtain ⟨Ms, n, k, n1, n60, k60, R, wf, mu, ha, q⟩ := h
  refine ⟨_, (pss_cons (ps_set (i := 2) scActsNeeded.nd rfl (by first | exact Or.inl rfl | exact Or.inr rfl) (pe_callB (call_min2 rfl) (by rfl) T.b_min b_min (pa_cons (pv 0) (pa_cons (pv 1) pa_nil))))
      (pss_cons (ps_set (i := 3) scActsNeeded.nd rfl (by first | exact Or.inl rfl | exact Or.inr rfl) (pe_ix (k_ix_list K) (pe_ix (k_ix_list K) (C8.pe_c c_least_acts hr (by decide) rfl (pa_cons (pv 0) (pa_cons (pv 2) pa_nil))) (pv 2) (fun _ _ => rfl)) (pv 0) (fun _ _ => rfl)))
      (pss_one (ps_ret (pe_ifExp (pt_cmpR op_eq (pv 3) (C8.pe_gc rfl T.k_NEVER) (nomark _)) pe_non (pv 3)))))), ?_⟩
  refine go_start wf mu ha ?_
  have hl := tabRow_len n1 (min n k)
  refine go_seq (go_asg ((ev_min2 (ev_var (by rfl)) (ev_var (by rfl))).to (by rw [min_cast])) ?_)
  refine go_seq (go_asg (ev_ixTab2 (rows := table n (min n k)) (m := n) (Ev.tab (ev_call (ea_cons (ev_var (by rfl)) (ea_cons (ev_var (by rfl)) ea_nil)) (fun vs H Q h => ⟨_, n, min n k, n1, n60, by omega, h⟩))) (ev_var (by rfl)) (ev_var (by rfl)) (table_get (Nat.le_refl _)) (by omega) (List.nil_subset _)) ?_)
  dsimp only
  unfold actsD at q
  by_cases hN : (tabRow n (min n k)).getD n 0 = NV
  · rw [if_pos hN] at q
    exact go_ret (by exact q) (ev_ifT (et_B (ev_eqi (ev_var (by rfl)) (ev_int (i := (NV : Int))))) (decide_eq_true (by omega)) ev_non)
  · rw [if_neg hN] at q
    exact go_ret (by exact q) (ev_ifF (et_B (ev_eqi (ev_var (by rfl)) (ev_int (i := (NV : Int))))) (decide_eq_false (by omega)) (ev_var (by rfl)))
/-! ### acts_of -/
abbrev sActsOf : Stmt := topS 51
abbrev nActsOf : List Str := ["table", "spots", "pebbles", "middle", "there", "on", "spot"]
theorem scActsOf : FnScope nActsOf ["table", "spots", "pebbles"] (defScope sActsOf) := ⟨rfl, rfl, rfl, by decide +kernel, rfl, by decide +kernel, by decide +kernel⟩
def spActs (n : Nat) : Sp := fun vs H Q _ => ∃ (Ms : MS) (rows : List (List Nat)) (s p : Nat), okA rows n s p = true ∧ s ≤ 60 ∧ (∀ r ∈ rows, s < r.length) ∧ (actsF rows n s p).length ≤ 1000 ∧ Pu Ms [dp (tabD rows), dp (.int (s : Int)), dp (.int (p : Int))] (dp (.list (natsD (actsF rows n s p)))) vs H Q
theorem natsD_rev (l : List Nat) : (natsD l).reverse = natsD l.reverse := by
  unfold natsD
  rw [List.map_reverse]
theorem rows_getD {rows : List (List Nat)} {p : Nat} (h : p < rows.length) : rows[p]? = some (rows.getD p []) := by
  rw [List.getElem?_eq_getElem h, List.getD_eq_getElem?_getD, List.getElem?_eq_getElem h]
  rfl
theorem cal_acts_of (T : Txt K mg) (c_best_parting : C8.Cal P w K mg base 1 "best_parting" spBestParting []) : ∀ n, C8.Cal P w K mg base (n + 1) "acts_of" (spActs n) []
  | 0 => by
    refine mk_cal (x := "acts_of") (i := 51) (j := 36) T rfl scActsOf (fun _ _ _ _ _ _ us hl => match us, hl with | [_, _, _], _ => rfl) (fun vs H Q E h => ?_) (fun f cdv A outer s H vs Q E hr h => ?_)
    · obtain ⟨Ms, rows, s, p, hx, _⟩ := h
      exact absurd hx (by simp [okA])
    · obtain ⟨Ms, rows, s, p, hx, _⟩ := h
      exact absurd hx (by simp [okA])
  | n + 1 => by
    have c_acts_of : C8.Cal P w K mg base (n + 1) "acts_of" (spActs n) [] := cal_acts_of T c_best_parting n
    refine mk_cal (x := "acts_of") (i := 51) (j := 36) T rfl scActsOf (fun _ _ _ _ _ _ us hl => match us, hl with | [_, _, _], _ => rfl) (fun vs H Q E h => ?_) (fun f cdv A outer s H vs Q E hr h => ?_)
    · obtain ⟨Ms, rows, s, p, _, _, _, _, R, _, _, h, _⟩ := h
      exact (paired_len h).trans rfl
    obtain ⟨Ms, rows, m, p, hok, m60, hrl, hll, R, wf, mu, ha, q⟩ := h
    refine ⟨_, (pss_cons (ps_if (pt_cmpR op_eq (pv 1) pe_int (nomark _)) (pss_one (ps_ret (pe_lst (pa_cons pe_int pa_nil)))) pss_nil)
      (pss_cons (ps_set (i := 3) scActsOf.nd rfl (by first | exact Or.inl rfl | exact Or.inr rfl) (pe_ix (k_ix_tup K) (C8.pe_c c_best_parting hr (by omega) rfl (pa_cons (pv 0) (pa_cons (pv 1) (pa_cons (pv 2) pa_nil)))) pe_int (fun _ _ => rfl)))
      (pss_cons (ps_set (i := 4) scActsOf.nd rfl (by first | exact Or.inl rfl | exact Or.inr rfl) (C8.pe_c c_acts_of hr (by omega) rfl (pa_cons (pv 0) (pa_cons (pv 3) (pa_cons (pv 2) pa_nil)))))
      (pss_cons (ps_setLc (i := 5) (own := [("spot", 6)]) rfl scActsOf.nd rfl rfl (sw_true rfl rfl rfl (by decide +kernel)) (k_pi_list K (C8.pe_c c_acts_of hr (by omega) rfl (pa_cons (pv 0) (pa_cons (pe_op op_sub (pv 1) (pv 3)) (pa_cons (pe_op op_sub (pv 2) pe_int) pa_nil))))) (blkOk_by (own := [("spot", 6)]) (N := nActsOf) (sc := defScope sActsOf) (by decide +kernel)) (fun _ _ _ _ _ => (pg_name (i := 6) scActsOf.nd rfl (by first | exact Or.inl rfl | exact Or.inr rfl))) (fun _ _ _ _ _ => pts_nil) (fun _ _ _ _ _ => (pe_op op_add (pv 3) (pv 6))))
      (pss_one (ps_ret (pe_op op_cat (pe_op op_cat (pv 4) (pv 5)) (k_revL K (C8.pe_c c_acts_of hr (by omega) rfl (pa_cons (pv 0) (pa_cons (pv 3) (pa_cons (pe_op op_sub (pv 2) pe_int) pa_nil)))))))))))), ?_⟩
    refine go_start wf mu ha ?_
    by_cases h1 : m = 1
    · subst h1
      refine go_seq (go_ifT (et_B (ev_eqi (ev_var (by rfl)) ev_int)) (by rfl) ?_)
      have e : actsF rows (n + 1) 1 p = [1] := by unfold actsF; rw [if_pos rfl]
      rw [e] at q
      exact go_ret (by exact q) (el_lst1 ev_int).ev
    · have hok' := hok
      unfold okA at hok'
      rw [decide_eq_false h1, Bool.false_or] at hok'
      simp only [Bool.and_eq_true, decide_eq_true_eq] at hok'
      obtain ⟨⟨⟨⟨⟨⟨p1, pl⟩, d1⟩, d2⟩, o1⟩, o2⟩, o3⟩ := hok'
      have e : actsF rows (n + 1) m p = actsF rows n (mid rows m p) p ++ (actsF rows n (m - mid rows m p) (p - 1)).map (fun x => mid rows m p + x) ++ (actsF rows n (mid rows m p) (p - 1)).reverse := by
        conv => lhs; unfold actsF
        rw [if_neg h1]
      rw [e] at q hll
      simp only [List.length_append, List.length_map, List.length_reverse] at hll
      obtain ⟨p', rfl⟩ : ∃ p', p = p' + 1 := ⟨p - 1, by omega⟩
      rw [Nat.add_sub_cancel] at o2 o3 q hll
      have l1 := hrl _ (List.mem_of_getElem? (rows_getD pl))
      have l2 := hrl _ (List.mem_of_getElem? (rows_getD (show p' < rows.length by omega)))
      have hmid : (prN (parting (rows.getD (p' + 1) []) (rows.getD p' []) m)) = .tuple [.int ((parting (rows.getD (p' + 1) []) (rows.getD p' []) m).1 : Int), .int (mid rows m (p' + 1) : Int)] := rfl
      refine go_seq (go_ifF (et_B (ev_eqi (ev_var (by rfl)) ev_int)) (decide_eq_false (by omega)) (go_next ?_))
      refine go_seq (go_asg (ev_ixTn (d := .int (mid rows m (p' + 1) : Int)) 1 (ev_call (r := dp (prN (parting (rows.getD (p' + 1) []) (rows.getD p' []) m))) (ea_cons (Ev.tab (ev_var (A := dp (tabD rows)) (by rfl))) (ea_cons (ev_var (by rfl)) (ea_cons (ev_var (by rfl)) ea_nil)))
        (fun vs H Q h => ⟨_, [], rows, m, p', _, _, List.nil_subset _, rows_getD pl, rows_getD (by omega), by omega, by omega, by omega, h⟩)) ev_int (by rfl)) ?_)
      have hr1 : ∀ r ∈ rows, mid rows m (p' + 1) < r.length := fun r hr => by have := hrl r hr; omega
      have hr2 : ∀ r ∈ rows, m - mid rows m (p' + 1) < r.length := fun r hr => by have := hrl r hr; omega
      have ep : ((p' + 1 : Nat) : Int) - 1 = (p' : Int) := by omega
      refine go_seq (go_asg (ev_call (ea_cons (ev_var (by rfl)) (ea_cons (ev_var (by rfl)) (ea_cons (ev_var (by rfl)) ea_nil))) (fun vs H Q h => ⟨_, rows, mid rows m (p' + 1), p' + 1, o1, by omega, hr1, by omega, h⟩)) ?_)
      refine go_seq (go_asg (el_map (actsF rows n (m - mid rows m (p' + 1)) p') (fun n : Nat => .int (n : Int)) (fun x => .int ((mid rows m (p' + 1) + x : Nat) : Int)) (ei_list (ev_call (ea_cons (ev_var (by rfl)) (ea_cons ((ev_sub (ev_var (by rfl)) (ev_var (by rfl))).to (e := .int ((m - mid rows m (p' + 1) : Nat) : Int)) (by congr 1; omega)) (ea_cons ((ev_sub (ev_var (by rfl)) ev_int).to (by rw [ep])) ea_nil)))
        (fun vs H Q h => ⟨_, rows, m - mid rows m (p' + 1), p', o2, by omega, hr2, by omega, h⟩))) (fun _ _ => tg_name) (fun x hx => (ev_add (ev_var (by rfl)) (ev_var (by rfl))).to (by congr 1)) (by omega) (by decide)).ev ?_)
      refine go_ret (by exact q) (Ev.to (e := .list (natsD (actsF rows n (mid rows m (p' + 1)) (p' + 1) ++ (actsF rows n (m - mid rows m (p' + 1)) p').map (fun x => mid rows m (p' + 1) + x) ++ (actsF rows n (mid rows m (p' + 1)) p').reverse))) (el_cat (el_cat (ev_var (by rfl)).ls (ev_var (by rfl)).ls ?_).ev.ls (el_revL (ev_call (ea_cons (ev_var (by rfl)) (ea_cons (ev_var (by rfl)) (ea_cons ((ev_sub (ev_var (by rfl)) ev_int).to (by rw [ep])) ea_nil))) (fun vs H Q h => ⟨_, rows, mid rows m (p' + 1), p', o3, by omega, hr1, by omega, h⟩)).ls).ev.ls ?_).ev ?_)
      · rw [natsD_len, List.length_map]; omega
      · rw [List.length_append, natsD_len, List.length_map, List.length_reverse, natsD_len]; omega
      · rw [natsD_app, natsD_app, natsD_rev]
        congr 3
        unfold natsD
        rw [List.map_map] <;> rfl
/-! ### pebble_way -/
abbrev sPebbleWay : Stmt := topS 52
abbrev nPebbleWay : List Str := ["spots", "pebbles", "many", "table"]
theorem scPebbleWay : FnScope nPebbleWay ["spots", "pebbles"] (defScope sPebbleWay) := ⟨rfl, rfl, rfl, by decide +kernel, rfl, by decide +kernel, by decide +kernel⟩
def spPebbleWay : Sp := fun vs H Q _ => ∃ (Ms : MS) (s p : Nat), wayOk s p = true ∧ Pu Ms [dp (.int (s : Int)), dp (.int (p : Int))] (dp (.tuple (natsD (wayOf s p)))) vs H Q
theorem cal_pebble_way (T : Txt K mg) (c_least_acts : C8.Cal P w K mg base 2 "least_acts" spLeastActs []) (c_acts_of : C8.Cal P w K mg base 21 "acts_of" (spActs 20) []) : C8.Cal P w K mg base 22 "pebble_way" spPebbleWay [] := by
  refine mk_cal (x := "pebble_way") (i := 52) (j := 37) T rfl scPebbleWay (fun _ _ _ _ _ _ us hl => match us, hl with | [_, _], _ => rfl) (fun vs H Q E h => ?_) (fun f cdv A outer s H vs Q E hr h => ?_)
  · obtain ⟨Ms, n, k, _, R, _, _, h, _⟩ := h
    exact (paired_len h).trans rfl
  obtain ⟨Ms, n, k, hok, R, wf, mu, ha, q⟩ := h
  refine ⟨_, (pss_cons (ps_set (i := 2) scPebbleWay.nd rfl (by first | exact Or.inl rfl | exact Or.inr rfl) (pe_callB (call_min2 rfl) (by rfl) T.b_min b_min (pa_cons (pv 0) (pa_cons (pv 1) pa_nil))))
      (pss_cons (ps_set (i := 3) scPebbleWay.nd rfl (by first | exact Or.inl rfl | exact Or.inr rfl) (C8.pe_c c_least_acts hr (by decide) rfl (pa_cons (pv 0) (pa_cons (pv 2) pa_nil))))
      (pss_one (ps_ret (pe_ifExp (pt_cmpR op_eq (pe_ix (k_ix_list K) (pe_ix (k_ix_list K) (pv 3) (pv 2) (fun _ _ => rfl)) (pv 0) (fun _ _ => rfl)) (C8.pe_gc rfl T.k_NEVER) (nomark _)) pe_non (pe_callTy (k_tupof K) (by rfl) T.b_tuple b_tuple (pa_cons (C8.pe_c c_acts_of hr (by decide) rfl (pa_cons (pv 3) (pa_cons (pv 0) (pa_cons (pv 2) pa_nil)))) pa_nil))))))), ?_⟩
  refine go_start wf mu ha ?_
  unfold wayOk at hok
  simp only [Bool.and_eq_true, decide_eq_true_eq, Bool.not_eq_true', decide_eq_false_iff_not] at hok
  obtain ⟨⟨⟨⟨⟨⟨n1, n20⟩, k1⟩, k20⟩, hN⟩, oa⟩, ll⟩ := hok
  have hl := tabRow_len n1 (min n k)
  refine go_seq (go_asg ((ev_min2 (ev_var (by rfl)) (ev_var (by rfl))).to (by rw [min_cast])) ?_)
  refine go_seq (go_asg (ev_call (r := dp (tabD (table n (min n k)))) (ea_cons (ev_var (by rfl)) (ea_cons (ev_var (by rfl)) ea_nil)) (fun vs H Q h => ⟨_, n, min n k, n1, by omega, by omega, h⟩)) ?_)
  refine go_ret (by exact q) (ev_ifF (et_B (ev_eqi (ev_ixTab2 (rows := table n (min n k)) (m := n) (Ev.tab (ev_var (A := dp (tabD (table n (min n k)))) (by rfl))) (ev_var (by rfl)) (ev_var (by rfl)) (table_get (Nat.le_refl _)) (by omega) (List.nil_subset _)) (ev_int (i := (NV : Int))))) (decide_eq_false (by omega)) (ev_tupleOf (Ev.ls (ev_call (ea_cons (ev_var (by rfl)) (ea_cons (ev_var (by rfl)) (ea_cons (ev_var (by rfl)) ea_nil))) (fun vs H Q h => ⟨_, table n (min n k), n, min n k, oa, by omega, fun r hr => ?_, ll, h⟩)))))
  obtain ⟨i, _, rfl⟩ := List.mem_map.mp hr
  have := tabRow_len n1 i
  omega
end
end Rb
end
section
set_option Elab.async false
set_option linter.all false
set_option autoImplicit false
set_option maxRecDepth 100000
set_option maxHeartbeats 4000000
namespace Rb
open PySem PySem.Spec PyProof.Rows L2
theorem actN_rise {l : List Nat} {x : Nat} (h : l.Pairwise (· < ·)) : ∀ l', actN l x = some l' → l'.Pairwise (· < ·) := fun l' e => by
  unfold actN at e
  split at e
  · cases e
  · split at e
    · cases e; exact List.Pairwise.filter _ h
    · cases e; exact insN_rising h
theorem runW_app (p : Nat) : ∀ (a b l : List Nat), runW p (a ++ b) l = (runW p a l).bind (runW p b)
  | [], b, l => rfl
  | x :: a, b, l => by
    show (match actN l x with | none => none | some l' => if p < l'.length then none else runW p (a ++ b) l') = (match actN l x with | none => none | some l' => if p < l'.length then none else runW p a l').bind _
    cases actN l x with
    | none => rfl
    | some l' =>
      dsimp only
      split
      · rfl
      · exact runW_app p a b l'
theorem runW_snoc (p : Nat) (a : List Nat) (x : Nat) : runW p (a ++ [x]) [] = (runW p a []).bind fun l => (match actN l x with | none => none | some l' => if p < l'.length then none else some l') := by
  rw [runW_app]
  cases runW p a [] with
  | none => rfl
  | some l => rfl
def optD : Option (List Nat) → PyData
  | none => .none
  | some l => .list (natsD l)
section
variable {P : Program} {w : World} {K : PySem.W.Frag} {mg : Str → Option Value} {base : Heap}
abbrev sActed : Stmt := topS 53
abbrev nActed : List Str := ["lying", "spot", "own"]
theorem scActed : FnScope nActed ["lying", "spot"] (defScope sActed) := ⟨rfl, rfl, rfl, by decide +kernel, rfl, by decide +kernel, by decide +kernel⟩
def spActed : Sp := fun vs H Q _ => ∃ (Ms : MS) (l : List Nat) (x : Nat), 1 ≤ x ∧ l.Pairwise (· < ·) ∧ l.length ≤ 60 ∧ Pu Ms [dp (.list (natsD l)), dp (.int (x : Int))] (dp (optD (actN l x))) vs H Q
theorem cal_acted (T : Txt K mg) : C8.Cal P w K mg base 1 "acted" spActed [] := by
  refine mk_cal (x := "acted") (i := 53) (j := 38) T rfl scActed (fun _ _ _ _ _ _ us hl => match us, hl with | [_, _], _ => rfl) (fun vs H Q E h => ?_) (fun f cdv A outer s H vs Q E hr h => ?_)
  · obtain ⟨Ms, l, x, _, _, _, R, _, _, h, _⟩ := h
    exact (paired_len h).trans rfl
  obtain ⟨Ms, l, x, x1, hl, ll, R, wf, mu, ha, q⟩ := h
  refine ⟨_, (pss_cons (ps_if (PW.pt (pw_and (pt_cmpR op_gt (pv 1) pe_int (nomark _)) (pw_and1 (pt_cmpR (k_notin K) (pe_op op_sub (pv 1) pe_int) (pv 0) (by rfl))))) (pss_one (ps_ret pe_non)) pss_nil)
      (pss_cons (ps_if (pt_cmpR (k_in K) (pv 1) (pv 0) (by rfl)) (pss_one (ps_ret (pe_lc (own := [("own", 2)]) rfl scActed.nd (k_pi_list K (pv 0)) (blkOk_by (own := [("own", 2)]) (N := nActed) (sc := defScope sActed) (by decide +kernel)) (fun _ _ _ _ _ => (pg_name (i := 2) scActed.nd rfl (by first | exact Or.inl rfl | exact Or.inr rfl))) (fun _ _ _ _ _ => (pts_one (pt_cmpR op_ne (pv 2) (pv 1) (nomark _)))) (fun _ _ _ _ _ => (pv 2))))) pss_nil)
      (pss_one (ps_ret (pe_callB (k_sorted K) (by rfl) T.b_sorted b_sorted (pa_cons (pe_op op_cat (pv 0) (pe_lst (pa_cons (pv 1) pa_nil))) pa_nil)))))), ?_⟩
  refine go_start wf mu ha ?_
  have ex : (x : Int) - 1 = ((x - 1 : Nat) : Int) := by omega
  have t1 : decide ((x : Int) > 1) = decide (1 < x) := decide_eq_decide.mpr (by omega)
  refine go_seq (go_if (et_and (et_B (ev_gt (ev_var (by rfl)) ev_int)) (fun _ => et_B (ev_niN ((ev_sub (ev_var (by rfl)) ev_int).to (by rw [ex])) (ev_var (by rfl)).sqL))) (fun hb => ?_) (fun hb => go_next ?_))
  · have e : actN l x = none := by unfold actN; rw [t1] at hb; rw [if_pos hb]
    rw [e] at q
    exact go_ret (by exact q) ev_non
  · rw [t1] at hb
    by_cases hx : x ∈ l
    · have e : actN l x = some (l.filter fun y => !decide (y = x)) := by
        unfold actN
        rw [if_neg (by rw [hb]; exact Bool.false_ne_true), if_pos hx]
      rw [e] at q
      refine go_seq (go_ifT (et_B (ev_inN (ev_var (by rfl)) (ev_var (by rfl)).sqL)) (decide_eq_true hx) ?_)
      refine go_ret (by exact q) (el_lc l (fun n : Nat => .int (n : Int)) (fun y => !decide (y = x)) (fun n : Nat => .int (n : Int)) (ei_list (ev_var (by rfl))) (fun _ _ => tg_name) (fun y hy => (et_B (ev_nei (ev_var (by rfl)) (ev_var (by rfl)))).to ?_) (fun y hy _ => ev_var (by rfl)) (by omega) (by decide)).ev
      congr 1
      exact decide_eq_decide.mpr (by omega)
    · have e : actN l x = some (insN x l) := by
        unfold actN
        rw [if_neg (by rw [hb]; exact Bool.false_ne_true), if_neg hx]
      rw [e] at q
      refine go_seq (go_ifF (et_B (ev_inN (ev_var (by rfl)) (ev_var (by rfl)).sqL)) (decide_eq_false hx) (go_next ?_))
      refine go_ret (by exact q) (Ev.to (e := .list (natsD (insN x l))) (el_sorted (ns := nI (l ++ [x])) (ms := nI (insN x l)) (Ev.ls (Ev.to (e := .list (intsD (nI (l ++ [x])))) (el_cat (ev_var (by rfl)).ls (el_lst1 (ev_var (by rfl))).ev.ls (by rw [natsD_len, List.length_singleton]; omega)).ev ?_)) (by rw [nI_len, List.length_append]; simp; omega) ((insN_perm hx).map _) (insN_sorted hl)).ev (by rw [natsD_nI]))
      rw [← natsD_nI, natsD_app]
      rfl
abbrev sIsWay : Stmt := topS 54
abbrev nIsWay : List Str := ["spots", "pebbles", "value", "lying", "spot"]
theorem scIsWay : FnScope nIsWay ["spots", "pebbles", "value"] (defScope sIsWay) := ⟨rfl, rfl, rfl, by decide +kernel, rfl, by decide +kernel, by decide +kernel⟩
def spIsWay : Sp := fun vs H Q _ => ∃ (Ms : MS) (n p : Nat) (v : List Nat), p ≤ 59 ∧ v.length ≤ 5000 ∧ (∀ x ∈ v, 1 ≤ x ∧ x ≤ n) ∧ Pu Ms [dp (.int (n : Int)), dp (.int (p : Int)), dp (.tuple (natsD v))] (dp (.bool (isWay n p v))) vs H Q
theorem cal_is_way (T : Txt K mg) (c_is_integer : C8.Cal P w K mg base 1 "is_integer" spIsInteger []) (c_acted : C8.Cal P w K mg base 1 "acted" spActed []) : C8.Cal P w K mg base 2 "is_way" spIsWay [] := by
  refine mk_cal (x := "is_way") (i := 54) (j := 39) T rfl scIsWay (fun _ _ _ _ _ _ us hl => match us, hl with | [_, _, _], _ => rfl) (fun vs H Q E h => ?_) (fun f cdv A outer s H vs Q E hr h => ?_)
  · obtain ⟨Ms, n, p, v, _, _, _, R, _, _, h, _⟩ := h
    exact (paired_len h).trans rfl
  obtain ⟨Ms, n, p, v, p60, vl, hv, R, wf, mu, ha, q⟩ := h
  refine ⟨_, (pss_cons (ps_if (PW.pt (pw_or (pt_not (pt_val (pe_callB (k_isi K) (by rfl) T.b_isinstance b_isinstance (pa_cons (pv 2) (pa_cons (pe_bltn (v := .ty "tuple") (by rfl) T.b_tuple b_tuple rfl) pa_nil))))) (pw_or1 (pt_cmpR (k_eqD K hr.units) (pv 2) (pe_tup pa_nil) (nomark _))))) (pss_one (ps_ret pe_bl)) pss_nil)
      (pss_cons (ps_set (i := 3) scIsWay.nd rfl (by first | exact Or.inl rfl | exact Or.inr rfl) (pe_lst pa_nil))
      (pss_cons (ps_for PassesOwn.never rfl (k_pi_tup K (pv 2)) (pg_name (i := 4) scIsWay.nd rfl (by first | exact Or.inl rfl | exact Or.inr rfl))
      (pss_cons (ps_if (pt_not (pt_val (C8.pe_c c_is_integer hr (by decide) rfl (pa_cons (pv 4) (pa_cons pe_int (pa_cons (pv 0) pa_nil)))))) (pss_one (ps_ret pe_bl)) pss_nil)
      (pss_cons (ps_set (i := 3) scIsWay.nd rfl (by first | exact Or.inl rfl | exact Or.inr rfl) (C8.pe_c c_acted hr (by decide) rfl (pa_cons (pv 3) (pa_cons (pv 4) pa_nil))))
      (pss_one (ps_if (PW.pt (pw_or (pt_cmpR op_isN (pv 3) pe_non (nomark _)) (pw_or1 (pt_cmpR op_gt (pe_callB (k_len K) (by rfl) T.b_len b_len (pa_cons (pv 3) pa_nil)) (pv 1) (nomark _))))) (pss_one (ps_ret pe_bl)) pss_nil)))))
      (pss_one (ps_ret (pe_cmpR (k_eqD K hr.units) (pv 3) (pe_lst (pa_cons (pv 0) pa_nil)) (nomark _))))))), ?_⟩
  refine go_start wf mu ha ?_
  refine go_seq (go_if (et_or (et_not (et_test (ev_isiT (b := true) (ev_var (by rfl)) ev_gl (kit_ty (by decide +kernel))))) (fun _ => et_B ((ev_eqD ((ev_var (by rfl)).to (by rw [natsD_nI])) ev_tup0 (shaped_tup _) (shaped_tup [])).to (by rw [show PyData.eqv (.tuple (intsD (nI v))) (.tuple []) = _ from eqv_tup _ []])))) (fun hb => ?_) (fun hb => go_next ?_))
  · have hv0 : v = [] := by
      have : nI v = [] := by simpa using hb
      cases v with
      | nil => rfl
      | cons a l => cases this
    subst hv0
    exact go_ret (by exact q) ev_bl
  · have hv0 : v ≠ [] := fun e => by subst e; exact absurd hb (by decide)
    refine go_seq (go_asg el_lst0.ev ?_)
    refine go_seq (go_forE v (fun x : Nat => .int (x : Int)) (ei_tup (ev_var (by rfl)))
      (fun i Ms' As' => ∃ l, runW p (v.take i) [] = some l ∧ l.Pairwise (· < ·) ∧ l.length ≤ p ∧ Ms' = Ms ∧ ∃ X4, As' = [some (dp (.int (n : Int))), some (dp (.int (p : Int))), some (dp (.tuple (natsD v))), some (dp (.list (natsD l))), X4]) ⟨[], rfl, List.Pairwise.nil, Nat.zero_le _, rfl, _, rfl⟩ ?_ ?_)
    · rintro Rb hb2 i x Ms' As' hx ⟨l, hrun, hl, hlp, rfl, X4, rfl⟩
      obtain ⟨x1, x2⟩ := hv x (List.mem_of_getElem? hx)
      have hrs : runW p (v.take (i + 1)) [] = (match actN l x with | none => none | some l' => if p < l'.length then none else some l') := by
        rw [take_snoc hx, runW_snoc, hrun]
        rfl
      have bad : runW p (v.take (i + 1)) [] = none → isWay n p v = false := fun e => by
        have : runW p v [] = none := by
          conv => lhs; rw [← List.take_append_drop (i + 1) v]
          rw [runW_app, e]
          rfl
        unfold isWay
        rw [this]
        simp
      refine go_seq (go_ifF (et_not (et_test (ev_call (r := dp (.bool (decide ((1 : Int) ≤ (x : Int)) && decide ((x : Int) ≤ (n : Int))))) (ea_cons (ev_var (by rfl)) (ea_cons ev_int (ea_cons (ev_var (by rfl)) ea_nil))) (fun vs H Q h => ⟨_, _, _, _, h⟩)))) ?_ (go_next ?_))
      · simp
        omega
      refine go_seq (go_asg (ev_call (r := dp (optD (actN l x))) (ea_cons (ev_var (by rfl)) (ea_cons (ev_var (by rfl)) ea_nil)) (fun vs H Q h => ⟨_, l, x, x1, hl, by omega, h⟩)) ?_)
      cases hact : actN l x with
      | none =>
        rw [hact] at hrs
        have hf := bad hrs
        dsimp only
        refine go_ifT (et_or (b := true) (et_B (ev_isN (d := .none) (ev_var (by rfl)) (by rfl))) (fun z => absurd z (by decide))) (by rfl) ?_
        rw [hf] at q
        exact go_ret (by exact Fin.base (c := pu) q hb2) ev_bl
      | some l' =>
        rw [hact] at hrs
        have hl' := actN_rise hl l' hact
        dsimp only
        by_cases hp : p < l'.length
        · have hf := bad (by rw [hrs]; exact if_pos hp)
          refine go_ifT (et_or (et_B (ev_isNr (ds := natsD l') (ev_var (by rfl)))) (fun _ => et_B (ev_gt (ev_len (ds := natsD l') (ev_var (by rfl)).sqL) (ev_var (by rfl))))) ?_ ?_
          · rw [natsD_len]
            simp
            omega
          rw [hf] at q
          exact go_ret (by exact Fin.base (c := pu) q hb2) ev_bl
        · refine go_ifF (et_or (et_B (ev_isNr (ds := natsD l') (ev_var (by rfl)))) (fun _ => et_B (ev_gt (ev_len (ds := natsD l') (ev_var (by rfl)).sqL) (ev_var (by rfl))))) ?_ (go_next (go_inv ⟨l', ?_, hl', by omega, rfl, _, rfl⟩))
          · rw [natsD_len]
            simp
            omega
          · rw [hrs]
            exact if_neg hp
    · rintro Ms' As' ⟨l, hrun, hl, hlp, rfl, X4, rfl⟩
      rw [List.take_length] at hrun
      have e : isWay n p v = decide (nI l = nI [n]) := by
        unfold isWay
        rw [hrun]
        cases v with
        | nil => exact absurd rfl hv0
        | cons a v =>
          show (true && decide (some l = some [n])) = _
          rw [Bool.true_and]
          exact decide_eq_decide.mpr ⟨fun h => by cases h; rfl, fun h => by rw [nI_inj h]⟩
      rw [e] at q
      exact go_ret (by exact q) ((ev_eqD ((ev_var (by rfl)).to (by rw [natsD_nI])) (el_lst1 (ev_var (by rfl))).ev (shaped_lst _) (shaped_lst [(n : Int)])).to (by rw [show PyData.eqv (.list (intsD (nI l))) (.list [.int (n : Int)]) = _ from eqv_lst _ [(n : Int)]]; rfl))
abbrev sFarthest : Stmt := topS 55
abbrev nFarthest : List Str := ["pebbles", "acts", "spots", "row", "found"]
theorem scFarthest : FnScope nFarthest ["pebbles", "acts"] (defScope sFarthest) := ⟨rfl, rfl, rfl, by decide +kernel, rfl, by decide +kernel, by decide +kernel⟩
def spFarthest : Sp := fun vs H Q _ => ∃ (Ms : MS) (p acts : Nat), 1 ≤ p ∧ p ≤ 60 ∧ Pu Ms [dp (.int (p : Int)), dp (.int (acts : Int))] (dp (.int (farN p acts : Int))) vs H Q
theorem cal_farthest (T : Txt K mg) (c_least_acts : C8.Cal P w K mg base 2 "least_acts" spLeastActs []) : C8.Cal P w K mg base 3 "farthest" spFarthest [] := by
  refine mk_cal (x := "farthest") (i := 55) (j := 40) T rfl scFarthest (fun _ _ _ _ _ _ us hl => match us, hl with | [_, _], _ => rfl) (fun vs H Q E h => ?_) (fun f cdv A outer s H vs Q E hr h => ?_)
  · obtain ⟨Ms, p, acts, _, _, R, _, _, h, _⟩ := h
    exact (paired_len h).trans rfl
  obtain ⟨Ms, p, acts, p1, p60, R, wf, mu, ha, q⟩ := h
  refine ⟨_, (pss_cons (ps_par (i := 3) (j := 4) rfl scFarthest.nd rfl rfl (by decide) rfl rfl (pa_cons (pe_ix (k_ix_list K) (C8.pe_c c_least_acts hr (by decide) rfl (pa_cons (C8.pe_gc rfl T.k_MAX_LINE) (pa_cons (pv 0) pa_nil))) (pv 0) (fun _ _ => rfl)) (pa_cons pe_int pa_nil)) (by rfl))
      (pss_cons (ps_for PassesOwn.never rfl (pi_range2 rfl T.b_range (pa_cons pe_int (pa_cons (pe_op op_add (C8.pe_gc rfl T.k_MAX_LINE) pe_int) pa_nil))) (pg_name (i := 2) scFarthest.nd rfl (by first | exact Or.inl rfl | exact Or.inr rfl))
      (pss_one (ps_if (pt_cmpR op_le (pe_ix (k_ix_list K) (pv 3) (pv 2) (fun _ _ => rfl)) (pv 1) (nomark _)) (pss_one (ps_set (i := 4) scFarthest.nd rfl (by first | exact Or.inl rfl | exact Or.inr rfl) (pv 2))) pss_nil)))
      (pss_one (ps_ret (pv 4))))), ?_⟩
  refine go_start wf mu ha ?_
  have hl := tabRow_len (s := 60) (by omega) p
  have htl : (tabRow 60 p).length = 61 := hl
  refine go_seq (go_par (ea_cons (Ev.le (B := dp (.list (natsD (tabRow 60 p)))) (ev_ixTab (rows := table 60 p) (Ev.tab (ev_call (r := dp (tabD (table 60 p))) (ea_cons (ev_int (i := 60)) (ea_cons (ev_var (by rfl)) ea_nil)) (fun vs H Q h => ⟨_, 60, p, by omega, by omega, p60, h⟩))) (ev_var (by rfl)) (table_get (Nat.le_refl p)) (List.nil_subset _)) (fun R v a => a.elim (fun a => a) fun ⟨_, _, h⟩ => by cases h)) (ea_cons (ev_int (i := 1)) ea_nil)) ?_)
  refine go_seq (go_forE (List.range 60) (fun i : Nat => .int ((i + 1 : Nat) : Int)) ((ei_r2 ev_int (ev_add (ev_int (i := 60)) ev_int) (by omega) (by omega)).to ?_)
    (fun i Ms' As' => Ms' = Ms ∧ ∃ X2, As' = [some (dp (.int (p : Int))), some (dp (.int (acts : Int))), X2, some (dp (.list (natsD (tabRow 60 p)))), some (dp (.int (farUp p acts i : Int)))]) ⟨rfl, _, rfl⟩ ?_ ?_)
  · unfold rgD
    rw [show ((60 : Int) + 1 - 1).toNat = 60 by decide]
    refine List.map_congr_left fun i _ => ?_
    congr 1
    omega
  · rintro Rb hb i x Ms' As' hx ⟨rfl, X2, rfl⟩
    obtain ⟨hi, rfl⟩ := range_get hx
    have hg : (natsD (tabRow 60 p))[i + 1]? = some (.int ((tabRow 60 p).getD (i + 1) 0 : Int)) := natsD_get (by rw [List.getElem?_eq_getElem (by omega), List.getD_eq_getElem?_getD, List.getElem?_eq_getElem (by omega)]; rfl)
    dsimp only
    have ef : farUp p acts (i + 1) = if (tabRow 60 p).getD (i + 1) 0 ≤ acts then i + 1 else farUp p acts i := rfl
    refine go_if (et_B (ev_le (ev_ixLn (i + 1) (ev_var (by rfl)).ls (ev_var (by rfl)) hg) (ev_var (by rfl)))) (fun hb => ?_) (fun hb => ?_)
    · have hb' := of_decide_eq_true hb
      have e2 : farUp p acts (i + 1) = i + 1 := by rw [ef, if_pos (by omega)]
      exact go_asg (ev_var (by rfl)) (go_inv ⟨rfl, some (dp (.int ((i + 1 : Nat) : Int))), by rw [e2]; rfl⟩)
    · have hb' := of_decide_eq_false hb
      have e2 : farUp p acts (i + 1) = farUp p acts i := by rw [ef, if_neg (by omega)]
      exact go_next (go_inv ⟨rfl, some (dp (.int ((i + 1 : Nat) : Int))), by rw [e2]; rfl⟩)
  · rintro Ms' As' ⟨rfl, X2, rfl⟩
    rw [List.length_range]
    exact go_ret (by exact q) (ev_var (by rfl))
end
end Rb
end
section
set_option Elab.async false
set_option linter.all false
set_option maxRecDepth 100000
set_option maxHeartbeats 4000000
namespace Rb
open PySem L2
/-! ### the deck -/
def deckJ (a b c : Addr) (H : Hp) : Prop := ∃ (bs cs : List Int) (n : Int), H a = some (.lst [.ref b, .ref c, .int n]) ∧ H b = some (.lst (bs.map V.int)) ∧ H c = some (.lst (cs.map V.int)) ∧ cs ≠ [] ∧ bs.length ≤ 100 ∧ cs.length ≤ 100 ∧ a ≠ b ∧ a ≠ c ∧ b ≠ c
def deckK (a b c : Addr) : Kx where
  A0 := [a, b, c]
  Mu := [a, b]
  J := deckJ a b c
  sub := fun x h => by simp only [List.mem_cons, List.not_mem_nil, or_false] at h ⊢; rcases h with h | h <;> simp [h]
  alive := fun {H} ⟨bs, cs, n, h1, h2, h3, _⟩ x hx => by
    simp only [List.mem_cons, List.not_mem_nil, or_false] at hx
    rcases hx with rfl | rfl | rfl
    · exact ⟨_, h1⟩
    · exact ⟨_, h2⟩
    · exact ⟨_, h3⟩
  loc := fun {H H'} e ⟨bs, cs, n, h1, h2, h3, r⟩ => ⟨bs, cs, n, by rw [e a (by simp)]; exact h1, by rw [e b (by simp)]; exact h2, by rw [e c (by simp)]; exact h3, r⟩
/-- the promise of a def that draws -/
def Dr (a b c : Addr) (Ms : MS) (as : List Asr) (r : Asr) (vs : List V) (H : Hp) (Q : VK) : Prop := ∃ R, Wf (deckK a b c) H R ∧ Muts (deckK a b c) Ms H R ∧ HoldsAll R vs as ∧ ∀ v H' R', Grow (deckK a b c) H R H' R' → r.h R' v → Q v H'
theorem ev_callD {a b c : Addr} {Ms : MS} {As : AS} {sp : Sp} {tA : TA} {as : List Asr} {r : Asr} {E : XK} (h : EvA (deckK a b c) Ms As tA as) (hs : ∀ vs H Q, Dr a b c Ms as r vs H Q → sp vs H Q E) : Ev (deckK a b c) Ms As (tCall sp [] E tA) r := fun σ H R s Q q =>
  h σ H R s _ fun vs H1 R1 g aa => by
    show sp (vs ++ []) H1 Q E
    rw [List.append_nil]
    exact hs vs H1 Q ⟨R1, g.wf, s.mu.grow g, aa, fun v H2 R2 g2 rv => q v H2 R2 (g.trans s.wf g2) rv⟩
/-- within: the deck's lists as one's own -/
def cutH (H : Hp) (a b : Addr) : Hp := fun x => if x = a ∨ x = b then none else H x
theorem go_startD {a b c : Addr} {H R : Hp} {Ms : MS} {as : List Asr} {N : List Str} {vs : List V} {C : L2.St → Hp → Prop} (w : Wf (deckK a b c) H R) (m : Muts (deckK a b c) Ms H R) (ha : HoldsAll R vs as)
    (h : ∀ bs cs n, cs ≠ [] → bs.length ≤ 100 → cs.length ≤ 100 → Go pu (cutH H a b) R ((a, .raw [.ref b, .ref c, .int n]) :: (b, .lst (intsD bs)) :: (c, .lst (intsD cs)) :: Ms) (as.map some ++ List.replicate (N.length - as.length) none) C) : C (L2.start N vs) H := by
  obtain ⟨bs, cs, n, h1, h2, h3, hne, l1, l2, ab, ac, bc⟩ := w.j
  have e : vs.length = as.length := paired_len ha
  have av : ∀ x ∈ [a, b, c], R x = none := w.av
  have off : ∀ e ∈ Ms, e.1 ∉ [a, b, c] := m.off
  refine h bs cs n hne l1 l2 _ H R ⟨fun x o _ hx => ?_, Same.refl R, fun _ _ hx => .inl hx, ⟨w.sub, fun _ hx => (List.not_mem_nil hx).elim, trivial⟩⟩ ⟨⟨w.sub, fun _ hx => (List.not_mem_nil hx).elim, trivial⟩, ⟨?_, fun _ _ hx => (List.not_mem_nil hx).elim, fun e he => ?_, fun e he => ?_⟩, ?_⟩
  · unfold cutH at hx
    split at hx
    · cases hx
    · exact hx
  · have nin : ∀ x ∈ [a, b, c], x ∉ Ms.map Prod.fst := fun x hx z => by
      obtain ⟨e, he, rfl⟩ := List.mem_map.mp z
      exact off e he hx
    simp only [List.map_cons, List.nodup_cons, List.mem_cons, not_or]
    exact ⟨⟨ab, ac, nin a (by simp)⟩, ⟨bc, nin b (by simp)⟩, nin c (by simp), m.nd⟩
  · rcases List.mem_cons.mp he with rfl | he
    · exact av a (by simp)
    · rcases List.mem_cons.mp he with rfl | he
      · exact av b (by simp)
      · rcases List.mem_cons.mp he with rfl | he
        · exact av c (by simp)
        · exact m.hid e he
  · rcases List.mem_cons.mp he with rfl | he
    · exact h1
    · rcases List.mem_cons.mp he with rfl | he
      · exact ⟨_, h2, .of_ints bs⟩
      · rcases List.mem_cons.mp he with rfl | he
        · exact ⟨_, h3, .of_ints cs⟩
        · exact m.ok e he
  · unfold L2.start
    rw [e]
    exact start_slots _ ha
theorem go_retD {a b c : Addr} {H R : Hp} {Ms : MS} {As : AS} {te : TE} {r : Asr} {D : Ends} {bs cs : List Int} {n : Int} (w : Wf (deckK a b c) H R) (q : ∀ v H' R', Grow (deckK a b c) H R H' R' → r.h R' v → D.rt v H') (h : Ev pu Ms As te r)
    (ma : (a, Mc.raw [.ref b, .ref c, .int n]) ∈ Ms) (mb : (b, Mc.lst (intsD bs)) ∈ Ms) (mc : (c, Mc.lst (intsD cs)) ∈ Ms) (hne : cs ≠ []) (l1 : bs.length ≤ 100) (l2 : cs.length ≤ 100) : Go pu (cutH H a b) R Ms As (tRet te D) := fun σ H1 R1 g s =>
  h σ H1 R1 s _ fun v H2 R2 g2 rv => by
    have gg := g.trans' g2
    have s2 := s.grow g2
    obtain ⟨_, _, _, _, _, _, _, _, _, ab, ac, bc⟩ := w.j
    refine q v H2 R2 ⟨fun x o hx hh => gg.gr x o List.not_mem_nil ?_, gg.rr, fun x o hx => ?_, ⟨gg.wf.sub, fun x hx => ?_, ?_⟩⟩ rv
    · have hx' : ¬ (x = a ∨ x = b) := fun z => hx (by simp only [deckK, List.mem_cons, List.not_mem_nil, or_false]; exact z)
      show cutH H a b x = some o
      unfold cutH
      rw [if_neg hx']
      exact hh
    · rcases gg.fr x o hx with h1 | h1 | h1
      · exact .inl h1
      · unfold cutH at h1
        split at h1
        · rename_i z
          rcases z with z | z
          · rw [z, s2.mu.hid _ ma] at hx; cases hx
          · rw [z, s2.mu.hid _ mb] at hx; cases hx
        · exact .inr (.inl h1)
      · exact .inr (.inr h1)
    · have hx' : x ∈ [a, b, c] := hx
      simp only [List.mem_cons, List.not_mem_nil, or_false] at hx'
      rcases hx' with rfl | rfl | rfl
      · exact s2.mu.hid _ ma
      · exact s2.mu.hid _ mb
      · exact s2.mu.hid _ mc
    · obtain ⟨v1, e1, r1⟩ := s2.mu.ok _ mb
      obtain ⟨v2, e2, r2⟩ := s2.mu.ok _ mc
      have := r1.toInts
      subst this
      have := r2.toInts
      subst this
      exact ⟨bs, cs, n, s2.mu.ok _ ma, e1, e2, hne, l1, l2, ab, ac, bc⟩
/-- a def's start that draws -/
theorem go_startK {a b c : Addr} {H R : Hp} {Ms : MS} {as : List Asr} {N : List Str} {vs : List V} {C : L2.St → Hp → Prop} (w : Wf (deckK a b c) H R) (m : Muts (deckK a b c) Ms H R) (ha : HoldsAll R vs as)
    (h : Go (deckK a b c) H R Ms (as.map some ++ List.replicate (N.length - as.length) none) C) : C (L2.start N vs) H := go_start w m ha h
end Rb
end
section
set_option Elab.async false
set_option linter.all false
set_option autoImplicit false
set_option maxRecDepth 100000
set_option maxHeartbeats 4000000
set_option exponentiation.threshold 500000
namespace Rb
open PySem PySem.Spec PyProof.Rows L2
section
variable {P : Program} {w : World} {K : PySem.W.Frag} {mg : Str → Option Value} {base : Heap}
/-! ### drawing -/
abbrev sLawDraw : Stmt := topS 58
abbrev nLawDraw : List Str := ["_law_deck_here", "_law_many", "_law_cell", "_law_mixed_here", "_law_rest"]
theorem scLawDraw : FnScope nLawDraw ["_law_deck_here", "_law_many"] (defScope sLawDraw) := ⟨rfl, rfl, rfl, by decide +kernel, rfl, by decide +kernel, by decide +kernel⟩
def spDraw : Sp := fun vs H Q _ => ∃ (a b c : Addr) (Ms : MS) (many : Nat), 0 < many ∧ many ≤ 100000 ∧ Dr a b c Ms [valA (.ref a), dp (.int (many : Int))] (inA fun i => 0 ≤ i ∧ i < many) vs H Q
theorem eqv_lst_nil (l : List Int) : PyData.eqv (.list (intsD l)) (.list []) = l.isEmpty := by
  cases l <;> simp [PyData.eqv, PyData.eqvAll, intsD]
theorem cal_law_draw (T : Txt K mg) : C8.Cal P w K mg base 1 "_law_draw" spDraw [] := by
  refine mk_cal (x := "_law_draw") (i := 58) (j := 42) T rfl scLawDraw (fun _ _ _ _ _ _ us hl => match us, hl with | [_, _], _ => rfl) (fun vs H Q E h => ?_) (fun f cdv A outer s H vs Q E hr h => ?_)
  · obtain ⟨a, b, c, Ms, many, _, _, R, _, _, h, _⟩ := h
    exact (paired_len h).trans rfl
  obtain ⟨a, b, c, Ms, many, m0, m1, R, wf, mu, ha, q⟩ := h
  refine ⟨_, (pss_cons (ps_if (pt_cmpR (k_neD K hr.units) (pe_ix (k_ix_list K) (pv 0) pe_int (fun _ _ => rfl)) (pe_lst pa_nil) (nomark _)) (pss_cons (ps_set (i := 4) scLawDraw.nd rfl (by first | exact Or.inl rfl | exact Or.inr rfl) (pe_ix (k_ix_list K) (pe_ix (k_ix_list K) (pv 0) pe_int (fun _ _ => rfl)) pe_int (fun _ _ => rfl)))
      (pss_cons (ps_asg (pe_op op_fdivW (pv 4) (pv 1)) (pg_sub (pe_ix (k_ix_list K) (pv 0) pe_int (fun _ _ => rfl)) pe_int set_list))
      (pss_cons (ps_if (pt_cmpR op_eq (pe_ix (k_ix_list K) (pe_ix (k_ix_list K) (pv 0) pe_int (fun _ _ => rfl)) pe_int (fun _ _ => rfl)) pe_int (nomark _)) (pss_one (ps_expr (k_bm K PySem.F.plainAttrs_list PySem.F.slot_list_pop PySem.F.type_list_pop mt_popAt (pe_ix (k_ix_list K) (pv 0) pe_int (fun _ _ => rfl)) (pa_cons pe_int pa_nil)))) pss_nil)
      (pss_one (ps_ret (pe_op op_mod (pe_callTy call_int1 (by rfl) T.b_int b_int (pa_cons (pv 4) pa_nil)) (pv 1))))))) pss_nil)
      (pss_cons (ps_asg (pe_op op_add (pe_ix (k_ix_list K) (pv 0) pe_int (fun _ _ => rfl)) pe_int) (pg_sub (pv 0) pe_int set_list))
      (pss_cons (ps_set (i := 2) scLawDraw.nd rfl (by first | exact Or.inl rfl | exact Or.inr rfl) (pe_ix (k_ix_list K) (pe_ix (k_ix_list K) (pv 0) pe_int (fun _ _ => rfl)) (pe_op op_mod (pe_callTy call_int1 (by rfl) T.b_int b_int (pa_cons (pe_ix (k_ix_list K) (pv 0) pe_int (fun _ _ => rfl)) pa_nil)) (pe_callB (k_len K) (by rfl) T.b_len b_len (pa_cons (pe_ix (k_ix_list K) (pv 0) pe_int (fun _ _ => rfl)) pa_nil))) (fun _ _ => rfl)))
      (pss_cons (ps_set (i := 3) scLawDraw.nd rfl (by first | exact Or.inl rfl | exact Or.inr rfl) (pe_op op_mod (pe_callTy call_int1 (by rfl) T.b_int b_int (pa_cons (pe_op op_add (pe_op op_mod (pe_callTy call_int1 (by rfl) T.b_int b_int (pa_cons (pv 2) pa_nil)) pe_int) (pe_op op_mul pe_int (pe_ix (k_ix_list K) (pv 0) pe_int (fun _ _ => rfl)))) pa_nil)) pe_int))
      (pss_cons (ps_set (i := 3) scLawDraw.nd rfl (by first | exact Or.inl rfl | exact Or.inr rfl) (pe_op op_mod (pe_callTy call_int1 (by rfl) T.b_int b_int (pa_cons (pe_op op_add (pe_op op_mul (pv 3) (pv 3)) (pe_op op_mul pe_int (pe_ix (k_ix_list K) (pv 0) pe_int (fun _ _ => rfl)))) pa_nil)) pe_int))
      (pss_one (ps_ret (pe_op op_mod (pe_op op_fdivW (pe_op op_mod (pe_callTy call_int1 (by rfl) T.b_int b_int (pa_cons (pe_op op_mul (pv 3) (pv 3)) pa_nil)) pe_int) pe_int) (pv 1))))))))), ?_⟩
  refine go_startD wf mu ha fun bs cs n hne l1 l2 => ?_
  have h0a : cutH H a b a = none := by unfold cutH; rw [if_pos (.inl rfl)]
  have h0b : cutH H a b b = none := by unfold cutH; rw [if_pos (.inr rfl)]
  have hm : (0 : Int) < (many : Int) := by omega
  have hd : ∀ i : Int, 0 ≤ i % (many : Int) ∧ i % (many : Int) < (many : Int) := fun i => ⟨Int.emod_nonneg i (by omega), Int.emod_lt_of_pos i hm⟩
  have logm : ∀ i : Int, CDivW i (many : Int) := fun i => ⟨hm, by
    show (((many : Nat) : Int).natAbs).log2 < 9000
    have : many.log2 ≤ many := by
      rcases Nat.eq_zero_or_pos many with h | h
      · subst h; decide
      · exact Nat.le_trans (Nat.le_of_lt (Nat.log2_lt (by omega) |>.mpr Nat.lt_two_pow_self)) (Nat.le_refl _)
    have h2 : many < 2 ^ 17 := by have : (2 : Nat) ^ 17 = 131072 := by decide
                                  omega
    have h3 := (Nat.log2_lt (n := many) (by omega)).mpr h2
    rw [Int.natAbs_natCast]
    omega⟩
  refine go_seq (go_if (et_B (ev_neDo (Ms' := [(b, Mc.lst (intsD bs))]) (Ev.own (ev_ixR (vs := [.ref b, .ref c, .int n]) 0 (ev_var (by rfl)) ev_int (by simp) (by rfl)) (by simp)) el_lst0.ev (shaped_lst bs) (shaped_lst []) (by intro x hx; rw [List.mem_singleton.mp hx]; simp))) (fun hb => ?_) (fun hb => go_next ?_))
  · rw [show PyData.eqv (.list (intsD bs)) (.list []) = _ from eqv_lst_nil bs] at hb
    cases bs with
    | nil => cases hb
    | cons x bs =>
    refine go_seq (go_asg (ev_ixLn (d := .int x) (ds := intsD (x :: bs)) (Ms' := [(b, Mc.lst (intsD (x :: bs)))]) 0 (Ev.own (ev_ixR (vs := [.ref b, .ref c, .int n]) 0 (ev_var (by rfl)) ev_int (by simp) (by rfl)) (by simp)) ev_int (by rfl) (by intro x hx; rw [List.mem_singleton.mp hx]; simp)) ?_)
    refine go_seq (go_setL 1 (i := 0) (ev_div (ev_var (by rfl)) (ev_var (by rfl)) (logm x)) (ev_ixR (vs := [.ref b, .ref c, .int n]) 0 (ev_var (by rfl)) ev_int (by simp) (by rfl)) ev_int (by rfl) h0b (by simp [intsD]) ?_)
    have es : (intsD (x :: bs)).set 0 (.int (x / (many : Int))) = intsD (x / (many : Int) :: bs) := rfl
    rw [es]
    have fin : ∀ (bs' : List Int), bs'.length ≤ 100 → Go pu (cutH H a b) R ((a, .raw [.ref b, .ref c, .int n]) :: (b, .lst (intsD bs')) :: (c, .lst (intsD cs)) :: Ms) [some (valA (.ref a)), some (dp (.int (many : Int))), none, none, some (dp (.int x))] (tRet (tOp (rI (fun _ j => 0 < j) fun i j => .int (i % j)) (tCB (fun xs H Q => (∃ i, xs = [.int i] ∧ Q (.int i) H) ∨ ∃ k, xs = [.bl k] ∧ Q (.int (if k then 1 else 0)) H) (tCons (tVar 4) tNil)) (tVar 1)) { nx := fun _ H' => Q .non H', rt := Q }) := fun bs' hl =>
      go_retD (n := n) (bs := bs') (cs := cs) wf (by exact q) (Ev.inA (ev_mod (ev_int1 (ev_var (by rfl))) (ev_var (by rfl)) hm) (hd x)) (by simp) (by simp) (by simp) hne hl l2
    refine go_seq (go_if (et_B (ev_eqi (ev_ixLn (d := .int (x / (many : Int))) (ds := intsD (x / (many : Int) :: bs)) (Ms' := [(b, Mc.lst (intsD (x / (many : Int) :: bs)))]) 0 (Ev.own (ev_ixR (vs := [.ref b, .ref c, .int n]) 0 (ev_var (by rfl)) ev_int (by simp) (by rfl)) (by simp)) ev_int (by rfl) (by intro x hx; rw [List.mem_singleton.mp hx]; simp)) ev_int)) (fun hb2 => ?_) (fun hb2 => ?_))
    · refine go_dropEv (em_popAt (P := fun i => i = 0) (ds := intsD (x / (many : Int) :: bs)) 1 (ev_ixR (vs := [.ref b, .ref c, .int n]) 0 (ev_var (by rfl)) ev_int (by simp) (by rfl)) (Ev.inA ev_int rfl) (fun i hi => by subst hi; simp [intsD]) (by rfl) h0b (by simp [intsD] at l1 ⊢; omega)) fun j hj => ?_
      obtain ⟨_, hj⟩ := hj
      have : j = 0 := by omega
      subst this
      exact fin bs (by simp at l1; omega)
    · exact go_next (fin _ (by simpa using l1))
  · refine go_seq (go_setR 0 (i := 2) (v := .int (n + 1)) (Ev.valI (ev_add (Ev.intV (ev_ixR (vs := [.ref b, .ref c, .int n]) 2 (ev_var (by rfl)) ev_int (by simp) (by rfl))) ev_int)) (ev_var (by rfl)) ev_int (by rfl) h0a (by simp) ?_)
    have es : ([.ref b, .ref c, .int n] : List V).set 2 (.int (n + 1)) = [.ref b, .ref c, .int (n + 1)] := rfl
    rw [es]
    have hcl : (0 : Int) < ((intsD cs).length : Int) := by
      have := List.length_pos_iff.mpr hne
      rw [ints_len]
      omega
    have hix : ∀ i : Int, 0 ≤ i % ((intsD cs).length : Int) ∧ i % ((intsD cs).length : Int) < ((intsD cs).length : Int) := fun i => ⟨Int.emod_nonneg i (by omega), Int.emod_lt_of_pos i hcl⟩
    have e1 : ((n + 1) % ((intsD cs).length : Int)) = ((((n + 1) % ((intsD cs).length : Int)).toNat : Nat) : Int) := by have := (hix (n + 1)).1; omega
    have hlt : ((n + 1) % ((intsD cs).length : Int)).toNat < cs.length := by have := hix (n + 1); rw [ints_len] at this ⊢; omega
    dsimp only
    refine go_seq (go_asg (A := dp (.int (cs.getD ((n + 1) % ((intsD cs).length : Int)).toNat 0))) ?_ ?_)
    · have hsub : [(c, Mc.lst (intsD cs))] ⊆ (((a, Mc.raw [.ref b, .ref c, .int n]) :: (b, Mc.lst (intsD bs)) :: (c, Mc.lst (intsD cs)) :: Ms).set 0 (a, Mc.raw [.ref b, .ref c, .int (n + 1)])) := by intro x hx; rw [List.mem_singleton.mp hx]; simp
      refine ev_ixLn (ds := intsD cs) (Ms' := [(c, Mc.lst (intsD cs))]) ((n + 1) % ((intsD cs).length : Int)).toNat (Ev.own (ev_ixR (vs := [.ref b, .ref c, .int (n + 1)]) 1 (ev_var (by rfl)) ev_int (by simp) (by rfl)) (by simp)) ?_ (ints_get hlt) hsub
      rw [← e1]
      exact ev_mod (ev_int1 (Ev.intV (ev_ixR (vs := [.ref b, .ref c, .int (n + 1)]) 2 (ev_var (by rfl)) ev_int (by simp) (by rfl)))) (ev_len (ds := intsD cs) (Ms' := [(c, Mc.lst (intsD cs))]) (Ev.sqO (ev_ixR (vs := [.ref b, .ref c, .int (n + 1)]) 1 (ev_var (by rfl)) ev_int (by simp) (by rfl)) (by simp)) hsub) hcl
    have big : ∀ i : Int, (-(2 ^ 64) < (i % 4294966297) ∧ (i % 4294966297) < 2 ^ 64) := fun i => by
      have h1 := Int.emod_nonneg i (b := 4294966297) (by decide)
      have h2 := Int.emod_lt_of_pos i (b := 4294966297) (by decide)
      have e : (2 : Int) ^ 64 = 18446744073709551616 := by decide
      rw [e]
      omega
    have big2 : ∀ i : Int, (-(2 ^ 64) < (i % 4294966237) ∧ (i % 4294966237) < 2 ^ 64) := fun i => by
      have h1 := Int.emod_nonneg i (b := 4294966237) (by decide)
      have h2 := Int.emod_lt_of_pos i (b := 4294966237) (by decide)
      have e : (2 : Int) ^ 64 = 18446744073709551616 := by decide
      rw [e]
      omega
    refine go_seq (go_asg (ev_mod (ev_int1 (ev_add (ev_mod (ev_int1 (ev_var (by rfl))) ev_int (by decide)) (ev_mul ev_int (Ev.intV (ev_ixR (vs := [.ref b, .ref c, .int (n + 1)]) 2 (ev_var (by rfl)) ev_int (by simp) (by rfl))) (Or.inl (by decide))))) ev_int (by decide)) ?_)
    refine go_seq (go_asg (ev_mod (ev_int1 (ev_add (ev_mul (ev_var (by rfl)) (ev_var (by rfl)) (Or.inl (big _))) (ev_mul ev_int (Ev.intV (ev_ixR (vs := [.ref b, .ref c, .int (n + 1)]) 2 (ev_var (by rfl)) ev_int (by simp) (by rfl))) (Or.inl (by decide))))) ev_int (by decide)) ?_)
    exact go_retD (n := n + 1) (bs := bs) (cs := cs) wf (by exact q) (Ev.inA (ev_mod (ev_div (ev_mod (ev_int1 (ev_mul (ev_var (by rfl)) (ev_var (by rfl)) (Or.inl (big2 _)))) ev_int (by decide)) ev_int ⟨by decide, by decide⟩) (ev_var (by rfl)) hm) (hd _)) (by simp) (by simp) (by simp) hne l1 l2
end
end Rb
end
section
set_option Elab.async false
set_option linter.all false
set_option autoImplicit false
set_option maxRecDepth 100000
set_option maxHeartbeats 4000000
set_option exponentiation.threshold 500000
namespace Rb
open PySem PySem.Spec PyProof.Rows L2
section
variable {a b d : Addr} {Ms : MS} {As : AS} {tx te : TE} {E : XK}
theorem ev_draw {many : Nat} (hx : Ev (deckK a b d) Ms As tx (valA (.ref a))) (h : Ev (deckK a b d) Ms As te (dp (.int (many : Int)))) (h0 : 0 < many) (h1 : many ≤ 100000) : Ev (deckK a b d) Ms As (tCall spDraw [] E (tCons tx (tCons te tNil))) (inA fun i => 0 ≤ i ∧ i < (many : Int)) :=
  ev_callD (ea_cons hx (ea_cons h ea_nil)) (fun vs H Q h => ⟨a, b, d, Ms, many, h0, h1, h⟩)
end
section
variable {c : Kx} {H0 R0 : Hp} {Ms : MS} {As : AS} {ta tb te : TE} {A B : Asr} {K : PySem.W.Frag} {D : Ends} {C : L2.St → Hp → Prop} {r : R2} {ι : Type} {P : ι → Prop}
theorem go_openX {F : ι → Asr} (i : Nat) (hi : As[i]? = some (some (exA P F))) (h : ∀ x, P x → Go c H0 R0 Ms (As.set i (some (F x))) C) : Go c H0 R0 Ms As C := fun σ H R g s => by
  obtain ⟨v, hv, x, hx, a⟩ := s.sl.at_ i _ hi
  refine h x hx σ H R g ⟨s.wf, s.mu, ?_⟩
  have := s.sl.set (A := F x) (v := v) i a
  have e : σ.set i (some v) = σ := List.ext_getElem? fun j => by
    by_cases hj : i = j
    · subst hj
      rw [List.getElem?_set_self' , hv]
      rfl
    · rw [List.getElem?_set_ne hj]
  rwa [e] at this
theorem ev_opL {FA C : ι → Asr} (ha : Ev c Ms As ta (exA P FA)) (hb : Ev c Ms As tb B) (hr : ∀ i, P i → Ev c Ms [some (FA i), some B] (tOp r (tVar 0) (tVar 1)) (C i)) : Ev c Ms As (tOp r ta tb) (exA P C) := fun σ H R s Q q =>
  ha.bind s fun x H1 R1 g1 s1 ⟨i, hP, a⟩ => hb.bind s1 fun y H2 R2 g2 s2 b => by
    have s3 : Sit c Ms [some (FA i), some B] [some x, some y] H2 R2 := ⟨s2.wf, s2.mu, ⟨rfl, fun j A hj => by
      match j, hj with
      | 0, hj => cases hj; exact ⟨x, rfl, (FA i).mono g2.rr a⟩
      | 1, hj => cases hj; exact ⟨y, rfl, b⟩
      | j + 2, hj => cases hj⟩⟩
    have z := hr i hP _ _ _ s3 Q fun v H3 R3 g3 r => q v H3 R3 ((g1.trans s.wf g2).trans s.wf g3) ⟨i, hP, r⟩
    obtain ⟨v1, e1, v2, e2, z⟩ := z
    cases e1; cases e2
    exact z
theorem ev_cbL {rr : List V → Hp → VK → Prop} {FA C : ι → Asr} (ha : Ev c Ms As ta (exA P FA)) (hr : ∀ i, P i → Ev c Ms [some (FA i)] (tCB rr (tCons (tVar 0) tNil)) (C i)) : Ev c Ms As (tCB rr (tCons ta tNil)) (exA P C) := fun σ H R s Q q =>
  ha.bind s fun x H1 R1 g1 s1 ⟨i, hP, a⟩ => by
    have s3 : Sit c Ms [some (FA i)] [some x] H1 R1 := ⟨s1.wf, s1.mu, ⟨rfl, fun j A hj => by
      match j, hj with
      | 0, hj => cases hj; exact ⟨x, rfl, a⟩
      | j + 1, hj => cases hj⟩⟩
    have z := hr i hP _ _ _ s3 Q fun v H3 R3 g3 r => q v H3 R3 (g1.trans s.wf g3) ⟨i, hP, r⟩
    obtain ⟨v1, e1, z⟩ := z
    cases e1
    exact z
theorem ev_eqX {P : Int → Prop} {j : Int} (ha : Ev c Ms As ta (inA P)) (hb : Ev c Ms As tb (dp (.int j))) : Ev c Ms As (tOp rEq ta tb) (exA (fun b => ∃ i, P i ∧ b = decide (i = j)) fun b => dp (.bool b)) :=
  (ev_opL ha hb fun i hi => ev_eqi (ev_var rfl) (ev_var rfl)).le fun R v ⟨i, hi, a⟩ => ⟨_, ⟨i, hi, rfl⟩, a⟩
theorem ev_tupleOfX {ds : ι → List PyData} (h : Ev c Ms As ta (exA P fun i => dp (.list (ds i)))) :
    Ev c Ms As (tCB (fun xs H Q => ∃ p ys, xs = [.ref p] ∧ ((SqL K H p ys ∧ ∀ l, H l = none → Q (.ref l) (upd H l (.tup ys))) ∨ (SqT K H p ys ∧ Q (.ref p) H))) (tCons ta tNil)) (exA P fun i => dp (.tuple (ds i))) :=
  ev_cbL h fun i _ => ev_tupleOf (Ev.ls (ev_var rfl))
end
section
variable {P : Program} {w : World} {K : PySem.W.Frag} {mg : Str → Option Value} {base : Heap}
/-! ### one of some -/
abbrev sLawOne : Stmt := topS 59
abbrev nLawOne : List Str := ["_law_deck_here", "_law_items"]
theorem scLawOne : FnScope nLawOne ["_law_deck_here", "_law_items"] (defScope sLawOne) := ⟨rfl, rfl, rfl, by decide +kernel, rfl, by decide +kernel, by decide +kernel⟩
def spOne : Sp := fun vs H Q _ => ∃ (a b c : Addr) (Ms Ms' : MS) (ds : List PyData), Ms' ⊆ Ms ∧ ds ≠ [] ∧ ds.length ≤ 100000 ∧ Dr a b c Ms [valA (.ref a), lsA Ms' ds] (exA (fun d => d ∈ ds) fun d => dp d) vs H Q
theorem cal_law_one (T : Txt K mg) (c_law_draw : C8.Cal P w K mg base 1 "_law_draw" spDraw []) : C8.Cal P w K mg base 2 "_law_one" spOne [] := by
  refine mk_cal (x := "_law_one") (i := 59) (j := 43) T rfl scLawOne (fun _ _ _ _ _ _ us hl => match us, hl with | [_, _], _ => rfl) (fun vs H Q E h => ?_) (fun f cdv A outer s H vs Q E hr h => ?_)
  · obtain ⟨a, b, c, Ms, Ms', ds, _, _, _, R, _, _, h, _⟩ := h
    exact (paired_len h).trans rfl
  obtain ⟨a, b, c, Ms, Ms', ds, hs, hne, hl, R, wf, mu, ha, q⟩ := h
  refine ⟨_, (pss_one (ps_ret (pe_ix (k_ix_list K) (pv 1) (C8.pe_c c_law_draw hr (by decide) rfl (pa_cons (pv 0) (pa_cons (pe_callB (k_len K) (by rfl) T.b_len b_len (pa_cons (pv 1) pa_nil)) pa_nil))) (fun _ _ => rfl)))), ?_⟩
  refine go_startK wf mu ha ?_
  exact go_ret (by exact q) (ev_ixLX (ev_var (A := lsA Ms' ds) (by rfl)) (ev_draw (ev_var (by rfl)) (ev_len (Ev.lsq (ev_var (A := lsA Ms' ds) (by rfl))) hs) (List.length_pos_iff.mpr hne) hl) (fun i hi => hi) hs)
theorem ev_one {a b d : Addr} {Ms : MS} {As : AS} {tx te : TE} {E : XK} {Ms' : MS} {ds : List PyData} (hx : Ev (deckK a b d) Ms As tx (valA (.ref a))) (h : Ev (deckK a b d) Ms As te (lsA Ms' ds)) (hne : ds ≠ []) (hl : ds.length ≤ 100000) (hs : Ms' ⊆ Ms := by first | exact List.nil_subset _ | exact List.Subset.refl _ | simp) : Ev (deckK a b d) Ms As (tCall spOne [] E (tCons tx (tCons te tNil))) (exA (fun d => d ∈ ds) fun d => dp d) :=
  ev_callD (ea_cons hx (ea_cons h ea_nil)) (fun vs H Q h => ⟨a, b, d, Ms, Ms', ds, hs, hne, hl, h⟩)
/-! ### mixed -/
abbrev sLawMixed : Stmt := topS 60
abbrev nLawMixed : List Str := ["_law_deck_here", "_law_items", "_law_turn", "_law_rest", "_law_found"]
theorem scLawMixed : FnScope nLawMixed ["_law_deck_here", "_law_items"] (defScope sLawMixed) := ⟨rfl, rfl, rfl, by decide +kernel, rfl, by decide +kernel, by decide +kernel⟩
def mixA (ns : List Int) : Asr := exA (fun ms => ms.Perm ns) fun ms => dp (.list (intsD ms))
def spMixed : Sp := fun vs H Q _ => ∃ (a b c : Addr) (Ms Ms' : MS) (ns : List Int), Ms' ⊆ Ms ∧ ns.length ≤ 1000 ∧ Dr a b c Ms [valA (.ref a), lsA Ms' (intsD ns)] (mixA ns) vs H Q
theorem erase_perm : ∀ {l : List Int} {j : Nat}, j < l.length → (l.getD j 0 :: l.eraseIdx j).Perm l
  | [], _, h => by cases h
  | x :: l, 0, _ => by simp
  | x :: l, j + 1, h => by
    have ih := erase_perm (l := l) (j := j) (by simpa using h)
    rw [List.eraseIdx_cons_succ, List.getD_cons_succ]
    exact (List.Perm.swap _ _ _).trans (ih.cons x)
theorem erase_map {α β : Type} (f : α → β) : ∀ (l : List α) (j : Nat), (l.map f).eraseIdx j = (l.eraseIdx j).map f
  | [], _ => rfl
  | x :: l, 0 => rfl
  | x :: l, j + 1 => by
    rw [List.map_cons, List.eraseIdx_cons_succ, List.eraseIdx_cons_succ, List.map_cons, erase_map f l j]
theorem cal_law_mixed (T : Txt K mg) (c_law_draw : C8.Cal P w K mg base 1 "_law_draw" spDraw []) : C8.Cal P w K mg base 2 "_law_mixed" spMixed [] := by
  refine mk_cal (x := "_law_mixed") (i := 60) (j := 44) T rfl scLawMixed (fun _ _ _ _ _ _ us hl => match us, hl with | [_, _], _ => rfl) (fun vs H Q E h => ?_) (fun f cdv A outer s H vs Q E hr h => ?_)
  · obtain ⟨a, b, c, Ms, Ms', ds, _, _, R, _, _, h, _⟩ := h
    exact (paired_len h).trans rfl
  obtain ⟨a, b, c, Ms, Ms', ns, hs, hl, R, wf, mu, ha, q⟩ := h
  refine ⟨_, (pss_cons (ps_par (i := 3) (j := 4) rfl scLawMixed.nd rfl rfl (by decide) rfl rfl (pa_cons (pe_callTy (k_listof K) (by rfl) T.b_list b_list (pa_cons (pv 1) pa_nil)) (pa_cons (pe_lst pa_nil) pa_nil)) (by rfl))
      (pss_cons (ps_for PassesOwn.never rfl (pi_range1 rfl T.b_range (pa_cons (pe_callB (k_len K) (by rfl) T.b_len b_len (pa_cons (pv 1) pa_nil)) pa_nil)) (pg_name (i := 2) scLawMixed.nd rfl (by first | exact Or.inl rfl | exact Or.inr rfl))
      (pss_one (ps_expr (k_bm K PySem.F.plainAttrs_list PySem.F.slot_list_append PySem.F.type_list_append mt_append (pv 4) (pa_cons (k_bm K PySem.F.plainAttrs_list PySem.F.slot_list_pop PySem.F.type_list_pop mt_popAt (pv 3) (pa_cons (C8.pe_c c_law_draw hr (by decide) rfl (pa_cons (pv 0) (pa_cons (pe_callB (k_len K) (by rfl) T.b_len b_len (pa_cons (pv 3) pa_nil)) pa_nil))) pa_nil)) pa_nil)))))
      (pss_one (ps_ret (pv 4))))), ?_⟩
  refine go_startK wf mu ha ?_
  refine go_seq (go_parNN (EvL.n (el_listOf (Ev.lsq (ev_var (A := lsA Ms' (intsD ns)) (by rfl))) hs)) (fun p => EvL.n el_lst0) fun p p' hp hp' => ?_)
  have hsub : ∀ (x y : Addr × Mc), Ms' ⊆ x :: y :: Ms := fun x y z hz => List.mem_cons_of_mem _ (List.mem_cons_of_mem _ (hs hz))
  refine go_seq (go_for (ei_r1 (n := (ns.length : Int)) ((ev_len (Ev.lsq (ev_var (A := lsA Ms' (intsD ns)) (by rfl))) (hsub _ _)).to (by rw [ints_len])) (by omega)) (fun i Ms2 As2 => ∃ rs fs : List Int, ∃ X, (fs ++ rs).Perm ns ∧ rs.length = ns.length - i ∧ Ms2 = (p', .lst (intsD fs)) :: (p, .lst (intsD rs)) :: Ms ∧ As2 = [some (valA (.ref a)), some (lsA Ms' (intsD ns)), X, some (valA (.ref p)), some (valA (.ref p'))]) ⟨ns, [], none, by simp, by simp, rfl, rfl⟩ ?_ ?_)
  · rintro Rb hb i d _ _ hd ⟨rs, fs, X, hpm, hrl, rfl, rfl⟩
    obtain ⟨hi, rfl⟩ := rgD_get hd
    have hi' : i < ns.length := by omega
    have hfl : fs.length ≤ ns.length := by have := hpm.length_eq; rw [List.length_append] at this; omega
    have hpos : 0 < rs.length := by omega
    dsimp only
    refine go_appM (ds := fun _ => intsD fs) (ds0 := intsD fs) 0 (ev_var (by rfl)) (em_popAt (ds := intsD rs) (P := fun i => 0 ≤ i ∧ i < (rs.length : Int)) 1 (ev_var (by rfl)) (ev_draw (ev_var (by rfl)) ((ev_len (ds := intsD rs) (Ms' := [(p, Mc.lst (intsD rs))]) (Ev.sqO (ev_var (by rfl)) (by simp)) (by intro x hx; rw [List.mem_singleton.mp hx]; simp)).to (by rw [ints_len])) hpos (by omega)) (fun i hi => by rw [ints_len]; exact hi) (by rfl) hp (by rw [ints_len]; omega)) ⟨0, by rfl⟩ (fun j hj => by rfl) hp' (fun j hj => by rw [ints_len]; omega) (fun j hj => ?_)
    obtain ⟨hj1, hj2⟩ := hj
    rw [ints_len] at hj1
    have e1 : (intsD rs).getD j .none = .int (rs.getD j 0) := by
      rw [List.getD_eq_getElem?_getD, ints_get hj1]
      rfl
    have e2 : (intsD rs).eraseIdx j = intsD (rs.eraseIdx j) := by
      show (rs.map _).eraseIdx j = (rs.eraseIdx j).map _
      rw [erase_map]
    refine go_inv ⟨rs.eraseIdx j, fs ++ [rs.getD j 0], _, ?_, ?_, ?_, rfl⟩
    · have h1 := erase_perm hj1
      have h2 : ((fs ++ [rs.getD j 0]) ++ rs.eraseIdx j).Perm (fs ++ rs) := by
        rw [List.append_assoc]
        exact List.Perm.append_left _ h1
      exact h2.trans hpm
    · rw [List.length_eraseIdx_of_lt hj1]; omega
    · rw [e1, e2]
      show _ = (p', Mc.lst (intsD (fs ++ [rs.getD j 0]))) :: _
      rw [show intsD (fs ++ [rs.getD j 0]) = intsD fs ++ [.int (rs.getD j 0)] from List.map_append]
      rfl
  · rintro _ _ ⟨rs, fs, X, hpm, hrl, rfl, rfl⟩
    have : rs = [] := by
      have : rs.length = 0 := by rw [rgD_len] at hrl; omega
      exact List.length_eq_zero_iff.mp this
    subst this
    rw [List.append_nil] at hpm
    refine go_frz (i := 4) (by rfl) hp' (go_ret (by exact q) (Ev.le (B := mixA ns) (ev_var (A := dp (.list (intsD fs))) (by rfl)) fun R v a => ⟨fs, hpm, a⟩))
/-! ### far -/
abbrev sLawFar : Stmt := topS 61
abbrev nLawFar : List Str := ["_law_deck_here", "_law_many", "_law_found", "_law_turn"]
theorem scLawFar : FnScope nLawFar ["_law_deck_here", "_law_many"] (defScope sLawFar) := ⟨rfl, rfl, rfl, by decide +kernel, rfl, by decide +kernel, by decide +kernel⟩
def spFar : Sp := fun vs H Q _ => ∃ (a b c : Addr) (Ms : MS), Dr a b c Ms [valA (.ref a), inA fun m => 0 < m ∧ m ≤ 10 ^ 20 + 1] (inA fun i => 0 ≤ i ∧ i ≤ 10 ^ 20) vs H Q
theorem mulW_of {i j : Int} (hi : i.natAbs < 2 ^ 1000) (hj : j.natAbs < 2 ^ 1000) : CMulW i j := wide_mul hi hj (by decide) (by decide) (by decide)
theorem pow3 (k : Nat) (h : k ≤ 12) : (1000 : Int) ^ k ≤ 10 ^ 36 := by
  have : ∀ k, k ≤ 12 → (1000 : Int) ^ k ≤ 10 ^ 36 := by decide
  exact this k h
theorem cal_law_far (T : Txt K mg) (c_law_draw : C8.Cal P w K mg base 1 "_law_draw" spDraw []) : C8.Cal P w K mg base 2 "_law_far" spFar [] := by
  refine mk_cal (x := "_law_far") (i := 61) (j := 45) T rfl scLawFar (fun _ _ _ _ _ _ us hl => match us, hl with | [_, _], _ => rfl) (fun vs H Q E h => ?_) (fun f cdv A outer s H vs Q E hr h => ?_)
  · obtain ⟨a, b, c, Ms, R, _, _, h, _⟩ := h
    exact (paired_len h).trans rfl
  obtain ⟨a, b, c, Ms, R, wf, mu, ha, q⟩ := h
  refine ⟨_, (pss_cons (ps_set (i := 2) scLawFar.nd rfl (by first | exact Or.inl rfl | exact Or.inr rfl) pe_int)
      (pss_cons (ps_for PassesOwn.never rfl (pi_range1 rfl T.b_range (pa_cons pe_int pa_nil)) (pg_name (i := 3) scLawFar.nd rfl (by first | exact Or.inl rfl | exact Or.inr rfl))
      (pss_one (ps_set (i := 2) scLawFar.nd rfl (by first | exact Or.inl rfl | exact Or.inr rfl) (pe_op op_add (pe_op op_mulW (pv 2) pe_int) (C8.pe_c c_law_draw hr (by decide) rfl (pa_cons (pv 0) (pa_cons pe_int pa_nil)))))))
      (pss_one (ps_ret (pe_op op_mod (pe_callTy call_int1 (by rfl) T.b_int b_int (pa_cons (pv 2) pa_nil)) (pv 1)))))), ?_⟩
  refine go_startK wf mu ha ?_
  refine go_seq (go_asg (Ev.inA (P := fun i => 0 ≤ i ∧ i < 1000 ^ 0) ev_int (by decide)) ?_)
  refine go_seq (go_for (ei_r1 ev_int (by decide)) (fun k Ms2 As2 => ∃ X, Ms2 = Ms ∧ As2 = [some (valA (.ref a)), some (inA fun m => 0 < m ∧ m ≤ 10 ^ 20 + 1), some (inA fun i => 0 ≤ i ∧ i < 1000 ^ k), X]) ⟨none, rfl, rfl⟩ ?_ ?_)
  · rintro Rb hb k d _ _ hd ⟨X, rfl, rfl⟩
    obtain ⟨hi, rfl⟩ := rgD_get hd
    have hk : k ≤ 12 := by have : k < 12 := hi; omega
    have hp := pow3 k hk
    dsimp only
    refine go_asg (A := inA fun i => 0 ≤ i ∧ i < 1000 ^ (k + 1)) (ev_addX (P1 := fun i => ∃ j, i = j * 1000 ∧ 0 ≤ j ∧ j < 1000 ^ k) (ev_mulX (ev_var (by rfl)) (Ev.inA (P := fun i => i = 1000) ev_int rfl) (fun i j h1 h2 => mulW_of ?_ ?_) (fun i j h1 h2 => ⟨i, by rw [h2], h1⟩)) (ev_draw (many := 1000) (ev_var (by rfl)) ev_int (by decide) (by decide)) ?_) (go_inv ⟨_, rfl, rfl⟩)
    · have : (10 : Int) ^ 36 < 2 ^ 1000 := by decide
      omega
    · rw [h2]; decide
    · rintro _ j ⟨i, rfl, h1, h2⟩ ⟨h3, h4⟩
      have h4' : j < 1000 := h4
      have e : (1000 : Int) ^ (k + 1) = 1000 ^ k * 1000 := Int.pow_succ _ _
      rw [e]
      omega
  · rintro _ _ ⟨X, rfl, rfl⟩
    exact go_ret (by exact q) (ev_modX (P1 := fun i => 0 ≤ i ∧ i < 1000 ^ 12) (P2 := fun m => 0 < m ∧ m ≤ 10 ^ 20 + 1) (P := fun i => 0 ≤ i ∧ i ≤ 10 ^ 20) (ev_int1X (ev_var (A := inA fun i => 0 ≤ i ∧ i < 1000 ^ 12) (by rfl))) (ev_var (by rfl)) (fun i j h1 h2 => h2.1) (fun i j h1 h2 => ⟨Int.emod_nonneg _ (by omega), by have := Int.emod_lt_of_pos i h2.1; omega⟩))
/-! ### number -/
abbrev sLawNumber : Stmt := topS 62
abbrev nLawNumber : List Str := ["_law_deck_here", "_law_most"]
theorem scLawNumber : FnScope nLawNumber ["_law_deck_here"] (defScope sLawNumber) := ⟨rfl, rfl, rfl, by decide +kernel, rfl, by decide +kernel, by decide +kernel⟩
def spNumber : Sp := fun vs H Q _ => ∃ (a b c : Addr) (Ms : MS), Dr a b c Ms [valA (.ref a)] (inA fun i => i.natAbs ≤ 10 ^ 20) vs H Q
theorem cal_law_number (T : Txt K mg) (c_law_one : C8.Cal P w K mg base 2 "_law_one" spOne []) (c_law_far : C8.Cal P w K mg base 2 "_law_far" spFar []) : C8.Cal P w K mg base 3 "_law_number" spNumber [] := by
  refine mk_cal (x := "_law_number") (i := 62) (j := 46) T rfl scLawNumber (fun _ _ _ _ _ _ us hl => match us, hl with | [_], _ => rfl) (fun vs H Q E h => ?_) (fun f cdv A outer s H vs Q E hr h => ?_)
  · obtain ⟨a, b, c, Ms, R, _, _, h, _⟩ := h
    exact (paired_len h).trans rfl
  obtain ⟨a, b, c, Ms, R, wf, mu, ha, q⟩ := h
  refine ⟨_, (pss_cons (ps_set (i := 1) scLawNumber.nd rfl (by first | exact Or.inl rfl | exact Or.inr rfl) (C8.pe_c c_law_one hr (by decide) rfl (pa_cons (pv 0) (pa_cons (pe_lst (pa_cons pe_int (pa_cons pe_int (pa_cons pe_int (pa_cons (pe_op op_pow pe_int pe_int) (pa_cons (pe_op op_pow pe_int pe_int) pa_nil)))))) pa_nil))))
      (pss_one (ps_ret (pe_op op_mulW (C8.pe_c c_law_one hr (by decide) rfl (pa_cons (pv 0) (pa_cons (pe_lst (pa_cons pe_int (pa_cons (pe_un un_neg pe_int) pa_nil))) pa_nil))) (C8.pe_c c_law_far hr (by decide) rfl (pa_cons (pv 0) (pa_cons (pe_op op_add (pv 1) pe_int) pa_nil))))))), ?_⟩
  refine go_startK wf mu ha ?_
  have lim : ∀ d ∈ [PyData.int 3, .int 10, .int 1000, .int (10 ^ (9 : Int).toNat), .int (10 ^ (20 : Int).toNat)], ∃ m : Int, (0 < m ∧ m ≤ 10 ^ 20) ∧ d = .int m := by
    intro d hd
    simp only [List.mem_cons, List.not_mem_nil, or_false] at hd
    rcases hd with rfl | rfl | rfl | rfl | rfl
    · exact ⟨3, by decide, rfl⟩
    · exact ⟨10, by decide, rfl⟩
    · exact ⟨1000, by decide, rfl⟩
    · exact ⟨_, by decide, rfl⟩
    · exact ⟨_, by decide, rfl⟩
  refine go_seq (go_asg (A := inA fun m => 0 < m ∧ m ≤ 10 ^ 20) (Ev.le (ev_one (ev_var (by rfl)) (Ev.ls (EvL.ev (el_lst (ds := [.int 3, .int 10, .int 1000, .int (10 ^ (9 : Int).toNat), .int (10 ^ (20 : Int).toNat)]) (ea_cons ev_int (ea_cons ev_int (ea_cons ev_int (ea_cons (ev_pow ev_int ev_int ⟨by decide, by decide, by decide⟩) (ea_cons (ev_pow ev_int ev_int ⟨by decide, by decide, by decide⟩) ea_nil)))))))) (by simp) (by decide)) fun R v ⟨d, hd, a⟩ => by
      obtain ⟨m, hm, rfl⟩ := lim d hd
      exact ⟨m, hm, a⟩) ?_)
  have sg : ∀ d ∈ [PyData.int 1, .int (-1)], ∃ m : Int, m.natAbs ≤ 1 ∧ d = .int m := by
    intro d hd
    simp only [List.mem_cons, List.not_mem_nil, or_false] at hd
    rcases hd with rfl | rfl
    · exact ⟨1, by decide, rfl⟩
    · exact ⟨-1, by decide, rfl⟩
  refine go_ret (by exact q) (ev_mulX (P1 := fun i => i.natAbs ≤ 1) (P2 := fun i => 0 ≤ i ∧ i ≤ 10 ^ 20) (Ev.le (ev_one (ev_var (by rfl)) (Ev.ls (EvL.ev (el_lst2 ev_int (ev_neg ev_int)))) (by simp) (by decide)) fun R v ⟨d, hd, a⟩ => by
      obtain ⟨m, hm, rfl⟩ := sg d hd
      exact ⟨m, hm, a⟩) (ev_callD (ea_cons (ev_var (by rfl)) (ea_cons (ev_addX (P := fun m => 0 < m ∧ m ≤ 10 ^ 20 + 1) (ev_var (by rfl)) (Ev.inA (P := fun i => i = 1) ev_int rfl) (fun i j h1 h2 => by subst h2; omega)) ea_nil)) (fun vs H Q h => ⟨a, b, c, Ms, h⟩)) (fun i j h1 h2 => mulW_of ?_ ?_) (fun i j h1 h2 => ?_))
  · have : (1 : Nat) < 2 ^ 1000 := by decide
    omega
  · have : (10 : Int) ^ 20 < 2 ^ 1000 := by decide
    omega
  · show (i * j).natAbs ≤ 10 ^ 20
    rw [Int.natAbs_mul]
    have h3 : j.natAbs ≤ 10 ^ 20 := by have e : ((10 ^ 20 : Nat) : Int) = 10 ^ 20 := by decide
                                       omega
    calc i.natAbs * j.natAbs ≤ 1 * 10 ^ 20 := Nat.mul_le_mul h1 h3
      _ = 10 ^ 20 := Nat.one_mul _
/-! ### point -/
abbrev sLawPoint : Stmt := topS 63
abbrev nLawPoint : List Str := ["_law_deck_here", "_law_inputs", "_law_k"]
theorem scLawPoint : FnScope nLawPoint ["_law_deck_here", "_law_inputs"] (defScope sLawPoint) := ⟨rfl, rfl, rfl, by decide +kernel, rfl, by decide +kernel, by decide +kernel⟩
def ptA (n : Nat) : Asr := exA (fun pt : List Int => pt.length = n ∧ ∀ x ∈ pt, x.natAbs ≤ 10 ^ 20) fun pt => dp (.tuple (intsD pt))
def spPoint : Sp := fun vs H Q _ => ∃ (a b c : Addr) (Ms : MS) (n : Nat), n ≤ 1000 ∧ Dr a b c Ms [valA (.ref a), dp (.int (n : Int))] (ptA n) vs H Q
theorem paired_all {α β : Type} {F : α → β → Prop} {G : β → Prop} (h : ∀ a b, F a b → G b) : ∀ {l : List α} {m : List β}, Paired F l m → ∀ x ∈ m, G x
  | _, _, .nil, x, hx => by cases hx
  | _, _, .cons a t, x, hx => by
    rcases List.mem_cons.mp hx with rfl | hx
    · exact h _ _ a
    · exact paired_all h t x hx
theorem cal_law_point (T : Txt K mg) (c_law_draw : C8.Cal P w K mg base 1 "_law_draw" spDraw []) (c_law_number : C8.Cal P w K mg base 3 "_law_number" spNumber []) : C8.Cal P w K mg base 4 "_law_point" spPoint [] := by
  refine mk_cal (x := "_law_point") (i := 63) (j := 47) T rfl scLawPoint (fun _ _ _ _ _ _ us hl => match us, hl with | [_, _], _ => rfl) (fun vs H Q E h => ?_) (fun f cdv A outer s H vs Q E hr h => ?_)
  · obtain ⟨a, b, c, Ms, n, _, R, _, _, h, _⟩ := h
    exact (paired_len h).trans rfl
  obtain ⟨a, b, c, Ms, n, hn, R, wf, mu, ha, q⟩ := h
  refine ⟨_, (pss_cons (ps_if (pt_cmpR op_eq (C8.pe_c c_law_draw hr (by decide) rfl (pa_cons (pv 0) (pa_cons pe_int pa_nil))) pe_int (nomark _)) (pss_one (ps_ret (pe_callTy (k_tupof K) (by rfl) T.b_tuple b_tuple (pa_cons (pe_lc (own := [("_law_k", 2)]) rfl scLawPoint.nd (pi_range1 rfl T.b_range (pa_cons (pv 1) pa_nil)) (blkOk_by (own := [("_law_k", 2)]) (N := nLawPoint) (sc := defScope sLawPoint) (by decide +kernel)) (fun _ _ _ _ _ => (pg_name (i := 2) scLawPoint.nd rfl (by first | exact Or.inl rfl | exact Or.inr rfl))) (fun _ _ _ _ _ => pts_nil) (fun _ _ _ _ _ => (pe_op op_sub (C8.pe_c c_law_draw hr (by decide) rfl (pa_cons (pv 0) (pa_cons pe_int pa_nil))) pe_int))) pa_nil)))) pss_nil)
      (pss_one (ps_ret (pe_callTy (k_tupof K) (by rfl) T.b_tuple b_tuple (pa_cons (pe_lc (own := [("_law_k", 2)]) rfl scLawPoint.nd (pi_range1 rfl T.b_range (pa_cons (pv 1) pa_nil)) (blkOk_by (own := [("_law_k", 2)]) (N := nLawPoint) (sc := defScope sLawPoint) (by decide +kernel)) (fun _ _ _ _ _ => (pg_name (i := 2) scLawPoint.nd rfl (by first | exact Or.inl rfl | exact Or.inr rfl))) (fun _ _ _ _ _ => pts_nil) (fun _ _ _ _ _ => (C8.pe_c c_law_number hr (by decide) rfl (pa_cons (pv 0) pa_nil)))) pa_nil))))), ?_⟩
  refine go_startK wf mu ha ?_
  have fin : ∀ {te : TE} {As : AS}, Ev (deckK a b c) Ms As te (exA (fun ds => ∃ i : Unit, True ∧ ∃ bs : List Int, Paired (fun (_ : Nat) b => b.natAbs ≤ 10 ^ 20) (List.range n) bs ∧ ds = bs.map PyData.int) fun ds => dp (.tuple ds)) → Ev (deckK a b c) Ms As te (ptA n) := fun h => h.le fun R v ⟨ds, ⟨_, _, bs, hb, e⟩, a⟩ => by
    subst e
    exact ⟨bs, ⟨by have := paired_len hb; rw [List.length_range] at this; exact this.symm, paired_all (G := fun x : Int => x.natAbs ≤ 10 ^ 20) (fun _ _ h => h) hb⟩, a⟩
  have er : ∀ {As : AS}, As[1]? = some (some (dp (.int (n : Int)))) → EvIX (deckK a b c) Ms As (iRng1 (tCons (tVar 1) tNil)) (fun _ : Unit => True) fun _ => (List.range n).map fun i : Nat => PyData.int (0 + (i : Int)) := fun h => EvI.x (by
    have := ei_r1 (c := deckK a b c) (Ms := Ms) (n := (n : Int)) (ev_var h) (by omega)
    rwa [Int.toNat_natCast] at this)
  refine go_seq (go_ifP (ep_B (ev_eqX (ev_draw (many := 2) (ev_var (by rfl)) ev_int (by decide) (by decide)) ev_int)) (fun _ => ?_) (fun _ => go_next ?_))
  · refine go_ret (by exact q) (fin (ev_tupleOfX (EvLX.ev (el_lcX (fun i : Nat => .int (0 + (i : Int))) PyData.int (fun _ b => b.natAbs ≤ 10 ^ 20) (xs := fun _ => List.range n) (er (by rfl)) (fun _ => tg_name) (fun _ _ x hx => ?_) (fun _ _ => by simp; omega) (by decide)))))
    exact ev_subX (P := fun i => i.natAbs ≤ 10 ^ 20) (ev_draw (many := 9) (ev_var (by rfl)) ev_int (by decide) (by decide)) (Ev.inA (P := fun i => i = 4) ev_int rfl) (fun i j h1 h2 => by
      obtain ⟨h3, h4⟩ := h1
      have h4 : i < 9 := h4
      subst h2
      have : (10 : Nat) ^ 20 > 10 := by decide
      show (i - 4).natAbs ≤ 10 ^ 20
      omega)
  · refine go_ret (by exact q) (fin (ev_tupleOfX (EvLX.ev (el_lcX (fun i : Nat => .int (0 + (i : Int))) PyData.int (fun _ b => b.natAbs ≤ 10 ^ 20) (xs := fun _ => List.range n) (er (by rfl)) (fun _ => tg_name) (fun _ _ x hx => ?_) (fun _ _ => by simp; omega) (by decide)))))
    exact ev_callD (r := inA fun i => i.natAbs ≤ 10 ^ 20) (ea_cons (ev_var (by rfl)) ea_nil) (fun vs H Q h => ⟨a, b, c, Ms, h⟩)
end
end Rb
end
section
set_option Elab.async false
set_option linter.all false
set_option autoImplicit false
set_option maxRecDepth 100000
set_option maxHeartbeats 4000000
set_option exponentiation.threshold 500000
namespace Rb
open PySem PySem.Spec PyProof.Rows L2
section
variable {c : Kx} {H0 R0 : Hp} {Ms : MS} {As : AS} {ta tb te : TE} {A B : Asr} {K : PySem.W.Frag} {D : Ends} {C : L2.St → Hp → Prop}
theorem go_retDeck {bs cs : List Int} (h1 : EvL c Ms As ta (intsD bs)) (h2 : ∀ p, EvL c ((p, .lst (intsD bs)) :: Ms) As tb (intsD cs))
    (q : ∀ a b d H' R', Grow c H0 R0 H' R' → H' a = some (.lst [.ref b, .ref d, .int 0]) → H' b = some (.lst (bs.map V.int)) → H' d = some (.lst (cs.map V.int)) → a ≠ b → a ≠ d → b ≠ d → R' a = none → R' b = none → R' d = none → D.rt (.ref a) H') :
    Go c H0 R0 Ms As (tRet (tLst (tCons ta (tCons tb (tCons (tC (.int 0)) tNil)))) D) := fun σ H R g s =>
  h1 σ H R s _ fun p vs H1 R1 g1 hp hn hd rr => by
    have s1 : Sit c ((p, .lst (intsD bs)) :: Ms) As σ H1 R1 := Sit.own s g1 hp hn ⟨vs, hd, rr⟩
    refine h2 p σ H1 R1 s1 _ fun p2 us H2 R2 g2 hp2 hn2 hd2 rr2 => ?_
    refine ⟨by show 3 ≤ sizeLine; decide, fun a ha => ?_⟩
    have m2 := s1.mu.grow g2
    obtain ⟨vs', hv', r'⟩ := m2.ok _ List.mem_cons_self
    have hnp : R2 p = none := m2.hid _ List.mem_cons_self
    have e1 := r'.toInts
    have e2 := rr2.toInts
    subst e1 e2
    have hap : a ≠ p := fun e => by subst e; rw [ha] at hv'; cases hv'
    have hap2 : a ≠ p2 := fun e => by subst e; rw [ha] at hd2; cases hd2
    have hpp : p ≠ p2 := fun e => by subst e; rw [hp2] at hd; cases hd
    refine q a p p2 _ R2 (((g.trans' g1).trans' g2).trans' (.lay g2.wf ha)) upd_same ?_ ?_ hap hap2 hpp (g2.wf.none ha) hnp hn2
    · rw [upd_ne (Ne.symm hap)]; exact hv'
    · rw [upd_ne (Ne.symm hap2)]; exact hd2
theorem ev_tupX {ι : Type} {P : ι → Prop} {d : ι → PyData} {tA : TA} {as : List Asr} (h : EvA c Ms As tA as) (hl : as.length ≤ 1000) (hr : ∀ R vs, HoldsAll R vs as → ∃ i ds, P i ∧ d i = .tuple ds ∧ Reps R vs ds) : Ev c Ms As (tTup tA) (exA P fun i => dp (d i)) := fun σ H R s Q q =>
  h σ H R s _ fun vs H1 R1 g a => by
    obtain ⟨i, ds, hP, e, r⟩ := hr R1 vs a
    refine ⟨by rw [paired_len a]; exact Nat.le_trans hl (by decide), fun p hp => q _ _ _ (g.trans s.wf (.new g.wf hp)) ⟨i, hP, ?_⟩⟩
    show Rep _ _ (d i)
    rw [e]
    exact .tup upd_same (r.mono (same_new (g.wf.none hp)))
theorem ev_opL2 {r : R2} {ι : Type} {P : ι → Prop} {FB C : ι → Asr} (ha : Ev c Ms As ta A) (hb : Ev c Ms As tb (exA P FB)) (hr : ∀ i, P i → Ev c Ms [some A, some (FB i)] (tOp r (tVar 0) (tVar 1)) (C i)) : Ev c Ms As (tOp r ta tb) (exA P C) := fun σ H R s Q q =>
  ha.bind s fun x H1 R1 g1 s1 a => hb.bind s1 fun y H2 R2 g2 s2 ⟨i, hP, b⟩ => by
    have s3 : Sit c Ms [some A, some (FB i)] [some x, some y] H2 R2 := ⟨s2.wf, s2.mu, ⟨rfl, fun j A' hj => by
      match j, hj with
      | 0, hj => cases hj; exact ⟨x, rfl, A.mono g2.rr a⟩
      | 1, hj => cases hj; exact ⟨y, rfl, b⟩
      | j + 2, hj => cases hj⟩⟩
    have z := hr i hP _ _ _ s3 Q fun v H3 R3 g3 r => q v H3 R3 ((g1.trans s.wf g2).trans s.wf g3) ⟨i, hP, r⟩
    obtain ⟨v1, e1, v2, e2, z⟩ := z
    cases e1; cases e2
    exact z
end
section
variable {P : Program} {w : World} {K : PySem.W.Frag} {mg : Str → Option Value} {base : Heap}
/-! ### the deck is made -/
abbrev sLawDeck : Stmt := topS 57
abbrev nLawDeck : List Str := ["_law_script", "_law_cells", "_law_cell"]
theorem scLawDeck : FnScope nLawDeck ["_law_script"] (defScope sLawDeck) := ⟨rfl, rfl, rfl, by decide +kernel, rfl, by decide +kernel, by decide +kernel⟩
/-- the script itself -/
def scA (K : PySem.W.Frag) (ns : List Int) : Asr := ⟨fun G v => ∃ a, v = .ref a ∧ SqL K G a (ns.map V.int), fun e ⟨a, h1, h2⟩ => ⟨a, h1, h2.imp (fun r => r.imp (fun h => e _ _ h) fun ⟨o, h⟩ => ⟨o, e _ _ h⟩) fun h => h⟩⟩
theorem el_slScr {c : Kx} {Ms : MS} {As : AS} {te : TE} {tl th : TO} {ns : List Int} {lo hi : Option Int} (ha : Ev c Ms As te (scA K ns)) (h1 : EvO c Ms As tl lo) (h2 : EvO c Ms As th hi) : EvL c Ms As (tSl (rSlL K) te tl th) (cutD (intsD ns) lo hi) := fun σ H R s Q q =>
  ha.bind s fun x H1 R1 g1 s1 a => h1 σ H1 R1 s1 _ fun H2 R2 g2 => h2 σ H2 R2 (s1.grow g2) _ fun H3 R3 g3 => by
    have g := (g1.trans s.wf g2).trans s.wf g3
    obtain ⟨p, rfl, hp⟩ := (scA K ns).mono (g.wf.sub : Same R3 H3) ((scA K ns).mono (g2.rr.trans g3.rr) a)
    refine ⟨p, _, rfl, hp, fun l hn => q l _ _ R3 (g.trans s.wf (.lay g.wf hn)) (g.back hn) (g.wf.none hn) upd_same ?_⟩
    unfold cutV cutD
    have r := Reps.of_ints (G := R3) ns
    rw [r.length]
    exact (r.drop _).take _
def spDeck (K : PySem.W.Frag) : Sp := fun vs H Q _ => ∃ (Ms : MS) (R : Hp) (ns : List Int), Wf pu H R ∧ Muts pu Ms H R ∧ HoldsAll R vs [scA K ns] ∧ ns.length ≤ 100 ∧ ∀ a b d H' R', Grow pu H R H' R' → deckJ a b d H' → R' a = none → R' b = none → R' d = none → Q (.ref a) H'
theorem cal_law_deck (T : Txt K mg) : C8.Cal P w K mg base 1 "_law_deck" (spDeck K) [] := by
  refine mk_cal (x := "_law_deck") (i := 57) (j := 41) T rfl scLawDeck (fun _ _ _ _ _ _ us hl => match us, hl with | [_], _ => rfl) (fun vs H Q E h => ?_) (fun f cdv A outer s H vs Q E hr h => ?_)
  · obtain ⟨Ms, R, ns, _, _, h, _⟩ := h
    exact (paired_len h).trans rfl
  obtain ⟨Ms, R, ns, wf, mu, ha, hl, q⟩ := h
  refine ⟨_, (pss_cons (ps_setLc (i := 1) (own := [("_law_cell", 2)]) rfl scLawDeck.nd rfl rfl (sw_true rfl rfl rfl (by decide +kernel)) (k_pi_list K (pe_slice (k_slL K) (pv 0) po_none (po_some pe_int))) (blkOk_by (own := [("_law_cell", 2)]) (N := nLawDeck) (sc := defScope sLawDeck) (by decide +kernel)) (fun _ _ _ _ _ => (pg_name (i := 2) scLawDeck.nd rfl (by first | exact Or.inl rfl | exact Or.inr rfl))) (fun _ _ _ _ _ => pts_nil) (fun _ _ _ _ _ => (pe_callB call_abs (by rfl) T.b_abs b_abs (pa_cons (pv 2) pa_nil))))
      (pss_one (ps_ret (pe_lst (pa_cons (pe_lc (own := [("_law_cell", 2)]) rfl scLawDeck.nd (k_pi_list K (pv 1)) (blkOk_by (own := [("_law_cell", 2)]) (N := nLawDeck) (sc := defScope sLawDeck) (by decide +kernel)) (fun _ _ _ _ _ => (pg_name (i := 2) scLawDeck.nd rfl (by first | exact Or.inl rfl | exact Or.inr rfl))) (fun _ _ _ _ _ => (pts_one (pt_cmpR op_ge (pv 2) (pe_op op_pow pe_int pe_int) (nomark _)))) (fun _ _ _ _ _ => (pv 2))) (pa_cons (pe_op op_cat (pv 1) (pe_lst (pa_cons (pe_op op_add pe_int (pe_callB (k_len K) (by rfl) T.b_len b_len (pa_cons (pv 1) pa_nil))) pa_nil))) (pa_cons pe_int pa_nil))))))), ?_⟩
  refine go_start wf mu ha ?_
  have hc : ∃ ms : List Int, ms.length ≤ 63 ∧ cutD (intsD ns) none (some 63) = intsD ms := by
    refine ⟨ns.take 63, by rw [List.length_take]; omega, ?_⟩
    have e : cutD (intsD ns) none (some ((63 : Nat) : Int)) = (intsD ns).take 63 := cutD_to _ _
    refine e.trans ?_
    show (ns.map _).take 63 = (ns.take 63).map _
    rw [List.map_take]
  obtain ⟨ms, hm, hc⟩ := hc
  refine go_seq (go_asg ((el_map ms PyData.int (fun i => .int (if i < 0 then -i else i)) (ei_list ((el_slScr (ns := ns) (ev_var (by rfl)) eo_none (eo_some ev_int)).to hc).ev) (fun _ _ => tg_name) (fun x hx => ev_abs (ev_var (by rfl))) (by omega) (by decide)).ev) ?_)
  have em : (ms.map fun i : Int => PyData.int (if i < 0 then -i else i)) = intsD (ms.map fun i : Int => if i < 0 then -i else i) := by
    show _ = (ms.map _).map _
    rw [List.map_map]
    rfl
  rw [em]
  generalize hcs : ms.map (fun i : Int => if i < 0 then -i else i) = cs
  have hcl : cs.length ≤ 63 := by rw [← hcs, List.length_map]; exact hm
  refine go_retDeck (bs := cs.filter fun i => decide (i ≥ 10 ^ (18 : Int).toNat)) (cs := cs ++ [11246 + (cs.length : Int)]) ((el_lc cs PyData.int (fun i => decide (i ≥ 10 ^ (18 : Int).toNat)) PyData.int (ei_list (ev_var (by rfl))) (fun _ _ => tg_name) (fun x hx => et_B (ev_ge (ev_var (by rfl)) (ev_pow ev_int ev_int ⟨by decide, by decide, by decide⟩))) (fun x hx _ => ev_var (by rfl)) (by omega) (by decide))) (fun p => (el_cat (ds := intsD cs) (es := [.int (11246 + (cs.length : Int))]) (Ev.ls (ev_var (by rfl))) (Ev.ls (EvL.ev (el_lst1 (ev_add ev_int ((ev_len (ds := intsD cs) (Ev.sqL (ev_var (by rfl)))).to (by rw [ints_len])))))) (by rw [ints_len]; simp; omega)).to (by show _ = (cs ++ [_]).map _; rw [List.map_append]; rfl)) ?_
  intro a b d H' R' g e1 e2 e3 ab ad bd n1 n2 n3
  exact q a b d H' R' g ⟨_, _, 0, e1, e2, e3, by simp, by have := List.length_filter_le (fun i => decide (i ≥ 10 ^ (18 : Int).toNat)) cs; omega, by simp; omega, ab, ad, bd⟩ n1 n2 n3
/-! ### size -/
abbrev sLawSize : Stmt := topS 64
abbrev nLawSize : List Str := ["_law_step", "_law_found"]
theorem scLawSize : FnScope nLawSize ["_law_step", "_law_found"] (defScope sLawSize) := ⟨rfl, rfl, rfl, by decide +kernel, rfl, by decide +kernel, by decide +kernel⟩
def spSize : Sp := fun vs H Q _ => ∃ (Ms Ms' : MS) (s : Stp) (found : List Int), Ms' ⊆ Ms ∧ (∀ u ∈ s.uses, u < found.length) ∧ Pu Ms [dp (encS s), lsA Ms' (intsD found)] (dp (.int (s.measure found 1))) vs H Q
theorem cal_law_size (T : Txt K mg) : C8.Cal P w K mg base 1 "_law_size" spSize [] := by
  refine mk_cal (x := "_law_size") (i := 64) (j := 48) T rfl scLawSize (fun _ _ _ _ _ _ us hl => match us, hl with | [_, _], _ => rfl) (fun vs H Q E h => ?_) (fun f cdv A outer s H vs Q E hr h => ?_)
  · obtain ⟨Ms, Ms', s, found, _, _, R, _, _, h, _⟩ := h
    exact (paired_len h).trans rfl
  obtain ⟨Ms, Ms', st, found, sub, hu, R, wf, mu, ha, q⟩ := h
  refine ⟨_, (pss_cons (ps_if (pt_cmpR (k_in K) (pe_ix (k_ix_tup K) (pv 0) pe_int (fun _ _ => rfl)) (pe_tup (pa_cons pe_str (pa_cons pe_str pa_nil))) (by rfl)) (pss_one (ps_ret pe_int)) pss_nil)
      (pss_cons (ps_if (pt_cmpR op_eq (pe_ix (k_ix_tup K) (pv 0) pe_int (fun _ _ => rfl)) pe_str (nomark _)) (pss_one (ps_ret (pe_ix (k_ix_list K) (pv 1) (pe_ix (k_ix_tup K) (pv 0) pe_int (fun _ _ => rfl)) (fun _ _ => rfl)))) pss_nil)
      (pss_one (ps_ret (pe_ifExp (pt_cmpR op_eq (pe_ix (k_ix_tup K) (pv 0) pe_int (fun _ _ => rfl)) pe_str (nomark _)) (pe_op op_add (pe_ix (k_ix_list K) (pv 1) (pe_ix (k_ix_tup K) (pv 0) pe_int (fun _ _ => rfl)) (fun _ _ => rfl)) (pe_ix (k_ix_list K) (pv 1) (pe_ix (k_ix_tup K) (pv 0) pe_int (fun _ _ => rfl)) (fun _ _ => rfl))) (pe_callB (call_max2 rfl) (by rfl) T.b_max b_max (pa_cons (pe_callTy call_int1 (by rfl) T.b_int b_int (pa_cons (pe_ix (k_ix_list K) (pv 1) (pe_ix (k_ix_tup K) (pv 0) pe_int (fun _ _ => rfl)) (fun _ _ => rfl)) pa_nil)) (pa_cons (pe_callTy call_int1 (by rfl) T.b_int b_int (pa_cons (pe_ix (k_ix_list K) (pv 1) (pe_ix (k_ix_tup K) (pv 0) pe_int (fun _ _ => rfl)) (fun _ _ => rfl)) pa_nil)) pa_nil)))))))), ?_⟩
  refine go_start wf mu ha ?_
  cases st with
  | inn k =>
    refine go_seq (go_ifT (et_B (ev_inS (neg := false) (xs := ["in", "set"]) (ev_ixTn 0 (ev_var (by rfl)) ev_int (by rfl)) (ev_tup2 ev_str ev_str))) (by rfl) ?_)
    exact go_ret (by exact q) ev_int
  | st k =>
    refine go_seq (go_ifT (et_B (ev_inS (neg := false) (xs := ["in", "set"]) (ev_ixTn 0 (ev_var (by rfl)) ev_int (by rfl)) (ev_tup2 ev_str ev_str))) (by rfl) ?_)
    exact go_ret (by exact q) ev_int
  | neg i =>
    refine go_seq (go_ifF (et_B (ev_inS (neg := false) (xs := ["in", "set"]) (ev_ixTn 0 (ev_var (by rfl)) ev_int (by rfl)) (ev_tup2 ev_str ev_str))) (by rfl) (go_next ?_))
    refine go_seq (go_ifT (et_B (ev_eqs (ev_ixTn 0 (ev_var (by rfl)) ev_int (by rfl)) ev_str)) (by rfl) ?_)
    exact go_ret (by exact q) (ev_ixLn i (ev_var (by rfl)) (ev_ixTn 1 (ev_var (by rfl)) ev_int (by rfl)) (ints_get (hu i (by simp [Stp.uses]))) sub)
  | mul i j =>
    refine go_seq (go_ifF (et_B (ev_inS (neg := false) (xs := ["in", "set"]) (ev_ixTn 0 (ev_var (by rfl)) ev_int (by rfl)) (ev_tup2 ev_str ev_str))) (by rfl) (go_next ?_))
    refine go_seq (go_ifF (et_B (ev_eqs (ev_ixTn 0 (ev_var (by rfl)) ev_int (by rfl)) ev_str)) (by rfl) (go_next ?_))
    refine go_ret (by exact q) (ev_ifT (et_B (ev_eqs (ev_ixTn 0 (ev_var (by rfl)) ev_int (by rfl)) ev_str)) (by rfl) ?_)
    exact ev_add (ev_ixLn i (ev_var (by rfl)) (ev_ixTn 1 (ev_var (by rfl)) ev_int (by rfl)) (ints_get (hu i (by simp [Stp.uses]))) sub) (ev_ixLn j (ev_var (by rfl)) (ev_ixTn 2 (ev_var (by rfl)) ev_int (by rfl)) (ints_get (hu j (by simp [Stp.uses]))) sub)
  | add i j =>
    refine go_seq (go_ifF (et_B (ev_inS (neg := false) (xs := ["in", "set"]) (ev_ixTn 0 (ev_var (by rfl)) ev_int (by rfl)) (ev_tup2 ev_str ev_str))) (by rfl) (go_next ?_))
    refine go_seq (go_ifF (et_B (ev_eqs (ev_ixTn 0 (ev_var (by rfl)) ev_int (by rfl)) ev_str)) (by rfl) (go_next ?_))
    refine go_ret (by exact q) (ev_ifF (et_B (ev_eqs (ev_ixTn 0 (ev_var (by rfl)) ev_int (by rfl)) ev_str)) (by rfl) ?_)
    exact ev_max2 (ev_int1 (ev_ixLn i (ev_var (by rfl)) (ev_ixTn 1 (ev_var (by rfl)) ev_int (by rfl)) (ints_get (hu i (by simp [Stp.uses]))) sub)) (ev_int1 (ev_ixLn j (ev_var (by rfl)) (ev_ixTn 2 (ev_var (by rfl)) ev_int (by rfl)) (ints_get (hu j (by simp [Stp.uses]))) sub))
  | sub i j =>
    refine go_seq (go_ifF (et_B (ev_inS (neg := false) (xs := ["in", "set"]) (ev_ixTn 0 (ev_var (by rfl)) ev_int (by rfl)) (ev_tup2 ev_str ev_str))) (by rfl) (go_next ?_))
    refine go_seq (go_ifF (et_B (ev_eqs (ev_ixTn 0 (ev_var (by rfl)) ev_int (by rfl)) ev_str)) (by rfl) (go_next ?_))
    refine go_ret (by exact q) (ev_ifF (et_B (ev_eqs (ev_ixTn 0 (ev_var (by rfl)) ev_int (by rfl)) ev_str)) (by rfl) ?_)
    exact ev_max2 (ev_int1 (ev_ixLn i (ev_var (by rfl)) (ev_ixTn 1 (ev_var (by rfl)) ev_int (by rfl)) (ints_get (hu i (by simp [Stp.uses]))) sub)) (ev_int1 (ev_ixLn j (ev_var (by rfl)) (ev_ixTn 2 (ev_var (by rfl)) ev_int (by rfl)) (ints_get (hu j (by simp [Stp.uses]))) sub))
/-! ### used -/
abbrev sLawUsed : Stmt := topS 66
abbrev nLawUsed : List Str := ["_law_step"]
theorem scLawUsed : FnScope nLawUsed ["_law_step"] (defScope sLawUsed) := ⟨rfl, rfl, rfl, by decide +kernel, rfl, by decide +kernel, by decide +kernel⟩
def spUsed : Sp := fun vs H Q _ => ∃ (Ms : MS) (s : Stp), Pu Ms [dp (encS s)] (dp (.list (natsD (setN s.uses)))) vs H Q
theorem cal_law_used (T : Txt K mg) : C8.Cal P w K mg base 1 "_law_used" spUsed [] := by
  refine mk_cal (x := "_law_used") (i := 66) (j := 50) T rfl scLawUsed (fun _ _ _ _ _ _ us hl => match us, hl with | [_], _ => rfl) (fun vs H Q E h => ?_) (fun f cdv A outer s H vs Q E hr h => ?_)
  · obtain ⟨Ms, s, R, _, _, h, _⟩ := h
    exact (paired_len h).trans rfl
  obtain ⟨Ms, st, R, wf, mu, ha, q⟩ := h
  refine ⟨_, (pss_one (ps_ret (pe_ifExp (pt_cmpR (k_in K) (pe_ix (k_ix_tup K) (pv 0) pe_int (fun _ _ => rfl)) (pe_tup (pa_cons pe_str (pa_cons pe_str (pa_cons pe_str (pa_cons pe_str pa_nil))))) (by rfl)) (pe_sortedSet K rfl (by rfl) T.b_sorted (by rfl) T.b_set (pe_slice (k_slT K) (pv 0) (po_some pe_int) po_none)) (pe_lst pa_nil)))), ?_⟩
  refine go_start wf mu ha ?_
  refine go_ret (by exact q) ?_
  cases st <;> first
    | exact ev_ifF (et_B (ev_inS (neg := false) (xs := ["neg", "+", "-", "*"]) (ev_ixTn 0 (ev_var (by rfl)) ev_int (by rfl)) (ev_tup4 ev_str ev_str ev_str ev_str))) (by rfl) el_lst0.ev
    | exact ev_ifT (et_B (ev_inS (neg := false) (xs := ["neg", "+", "-", "*"]) (ev_ixTn 0 (ev_var (by rfl)) ev_int (by rfl)) (ev_tup4 ev_str ev_str ev_str ev_str))) (by rfl) (EvL.ev (el_setN ((ev_slT (ev_var (by rfl)) (eo_some ev_int) eo_none).to (by rfl)) (by simp [Stp.uses])))
/-! ### choose -/
abbrev sLawChoose : Stmt := topS 70
abbrev nLawChoose : List Str := ["_law_many", "_law_few", "_law_found", "_law_k"]
theorem scLawChoose : FnScope nLawChoose ["_law_many", "_law_few"] (defScope sLawChoose) := ⟨rfl, rfl, rfl, by decide +kernel, rfl, by decide +kernel, by decide +kernel⟩
def chF (m : Nat) : Nat → Int
  | 0 => 1
  | k + 1 => chF m k * ((m : Int) - (k : Int)) / ((k : Int) + 1)
def spChoose : Sp := fun vs H Q _ => ∃ (Ms : MS) (m k : Nat), m ≤ 100 ∧ k ≤ 100 ∧ Pu Ms [dp (.int (m : Int)), dp (.int (k : Int))] (dp (.int (chF m k))) vs H Q
theorem cal_law_choose (T : Txt K mg) : C8.Cal P w K mg base 1 "_law_choose" spChoose [] := by
  refine mk_cal (x := "_law_choose") (i := 70) (j := 54) T rfl scLawChoose (fun _ _ _ _ _ _ us hl => match us, hl with | [_, _], _ => rfl) (fun vs H Q E h => ?_) (fun f cdv A outer s H vs Q E hr h => ?_)
  · obtain ⟨Ms, m, k, _, _, R, _, _, h, _⟩ := h
    exact (paired_len h).trans rfl
  obtain ⟨Ms, m, k, hm, hk, R, wf, mu, ha, q⟩ := h
  refine ⟨_, (pss_cons (ps_set (i := 2) scLawChoose.nd rfl (by first | exact Or.inl rfl | exact Or.inr rfl) pe_int)
      (pss_cons (ps_for PassesOwn.never rfl (pi_range1 rfl T.b_range (pa_cons (pv 1) pa_nil)) (pg_name (i := 3) scLawChoose.nd rfl (by first | exact Or.inl rfl | exact Or.inr rfl))
      (pss_one (ps_set (i := 2) scLawChoose.nd rfl (by first | exact Or.inl rfl | exact Or.inr rfl) (pe_op op_fdivW (pe_op op_mul (pv 2) (pe_op op_sub (pv 0) (pv 3))) (pe_op op_add (pv 3) pe_int)))))
      (pss_one (ps_ret (pv 2))))), ?_⟩
  refine go_start wf mu ha ?_
  refine go_seq (go_asg (A := dp (.int (chF m 0))) ev_int ?_)
  refine go_seq (go_for (ei_r1 (n := (k : Int)) (ev_var (by rfl)) (by omega)) (fun i Ms2 As2 => ∃ X, Ms2 = Ms ∧ As2 = [some (dp (.int (m : Int))), some (dp (.int (k : Int))), some (dp (.int (chF m i))), X]) ⟨none, rfl, rfl⟩ ?_ ?_)
  · rintro Rb hb i d _ _ hd ⟨X, rfl, rfl⟩
    obtain ⟨hi, rfl⟩ := rgD_get hd
    have hi' : i < k := by omega
    dsimp only
    refine go_asg (A := dp (.int (chF m (i + 1)))) ((ev_div (ev_mul (ev_var (by rfl)) (ev_sub (ev_var (by rfl)) (ev_var (by rfl))) (Or.inr ?_)) (ev_add (ev_var (by rfl)) ev_int) (wide_div (b := 20) (by omega) ?_ (by decide) (by decide))).to (by rw [Int.zero_add] <;> rfl)) (go_inv ⟨_, rfl, rfl⟩)
    · have e : (2 : Int) ^ 64 = 18446744073709551616 := by decide
      rw [e]
      omega
    · have : (2 : Nat) ^ 20 = 1048576 := by decide
      omega
  · rintro _ _ ⟨X, rfl, rfl⟩
    rw [rgD_len]
    exact go_ret (by exact q) (ev_var (by rfl))
end
end Rb
end
section
set_option Elab.async false
set_option linter.all false
set_option autoImplicit false
set_option maxRecDepth 100000
set_option maxHeartbeats 4000000
set_option exponentiation.threshold 500000
namespace Rb
open PySem PySem.Spec PyProof.Rows L2
/-! ### drawn rows -/
structure Sok (n inp : Nat) (s : Stp) : Prop where
  us : ∀ u ∈ s.uses, u < n
  inn : ∀ k, s = .inn k → k < inp
  st : ∀ c, s = .st c → c.natAbs ≤ 4
structure Dra (st : List Stp) (inp : Nat) : Prop where
  sok : ∀ i s, st[i]? = some s → Sok i inp s
  siz : ∀ k ∈ sizesOf st, k ≤ 64
theorem Dra.nil {inp : Nat} : Dra [] inp := ⟨fun i s h => by simp at h, fun k h => by simp [sizesOf] at h⟩
theorem Dra.snoc {st : List Stp} {inp : Nat} {s : Stp} (h : Dra st inp) (hs : Sok st.length inp s) (hm : s.measure (sizesOf st) 1 ≤ 64) : Dra (st ++ [s]) inp where
  sok := fun i s' e => by
    by_cases hi : i < st.length
    · rw [List.getElem?_append_left hi] at e; exact h.sok i s' e
    · rw [List.getElem?_append_right (by omega)] at e
      obtain ⟨z, hz⟩ : ∃ z, i - st.length = z := ⟨_, rfl⟩
      rw [hz] at e
      cases z with
      | zero =>
        have : i = st.length := by omega
        subst this
        cases e
        exact hs
      | succ z => simp at e
  siz := fun k hk => by
    rw [sizesOf_snoc] at hk
    rcases List.mem_append.mp hk with hk | hk
    · exact h.siz k hk
    · rw [List.mem_singleton.mp hk]; exact hm
theorem getD_le {l : List Int} {m : Int} (h : ∀ k ∈ l, k ≤ m) {i : Nat} (hi : i < l.length) : l.getD i 0 ≤ m := by
  rw [List.getD_eq_getElem?_getD, List.getElem?_eq_getElem hi]
  exact h _ (List.getElem_mem hi)
theorem Sok.big {st : List Stp} {inp : Nat} {s : Stp} (h : Dra st inp) (hs : Sok st.length inp s) (hm : ¬ s.measure (sizesOf st) 1 ≤ 64) : ∃ i j, s = .mul i j := by
  have hg : ∀ u, u < st.length → (sizesOf st).getD u 0 ≤ 64 := fun u hu => getD_le h.siz (by rw [sizesOf_len]; exact hu)
  cases s with
  | inn k => exact absurd (show (1 : Int) ≤ 64 by decide) hm
  | st k => exact absurd (show (1 : Int) ≤ 64 by decide) hm
  | neg i => exact absurd (hg i (hs.1 i (by simp [Stp.uses]))) hm
  | mul i j => exact ⟨i, j, rfl⟩
  | add i j => exact absurd (Int.max_le.mpr ⟨hg i (hs.1 i (by simp [Stp.uses])), hg j (hs.1 j (by simp [Stp.uses]))⟩) hm
  | sub i j => exact absurd (Int.max_le.mpr ⟨hg i (hs.1 i (by simp [Stp.uses])), hg j (hs.1 j (by simp [Stp.uses]))⟩) hm
theorem Sok.add {st : List Stp} {inp : Nat} {i j : Nat} (h : Dra st inp) (hs : Sok st.length inp (.mul i j)) : Sok st.length inp (.add i j) ∧ (Stp.add i j).measure (sizesOf st) 1 ≤ 64 := by
  have hg : ∀ u, u < st.length → (sizesOf st).getD u 0 ≤ 64 := fun u hu => getD_le h.siz (by rw [sizesOf_len]; exact hu)
  refine ⟨⟨fun u hu => hs.1 u hu, fun k e => (by cases e), fun c e => by cases e⟩, ?_⟩
  exact Int.max_le.mpr ⟨hg i (hs.1 i (by simp [Stp.uses])), hg j (hs.1 j (by simp [Stp.uses]))⟩
/-- a drawn row -/
structure Drawn (r : Row) (inp many : Nat) : Prop where
  ok : r.Ok
  st : Dra r.steps r.inputs
  inp : r.inputs = inp
  long : r.steps.length ≤ many
  pos : 0 < r.steps.length
  ends : r.ends.length ≤ 8
def rowA (P : Row → Prop) : Asr := exA P fun r => dp (encR r)
theorem Dra.ok {r : Row} (h : Dra r.steps r.inputs) (he : ∀ e ∈ r.ends, e < r.steps.length) (hn : r.ends ≠ []) (hl : r.steps.length ≤ 1000) (hl2 : r.ends.length ≤ 1000) : r.Ok where
  lt := fun i s e => (h.sok i s e).1
  inn := fun i k e => (h.sok i _ e).inn k rfl
  ends := he
  ne := hn
  len := hl
  elen := hl2
section
variable {P : Program} {w : World} {K : PySem.W.Frag} {mg : Str → Option Value} {base : Heap}
theorem set_tup {R : Hp} {vs : List V} {x : Str} {P : Int → Prop} (h : HoldsAll R vs [dp (.str x), inA P]) : ∃ i, P i ∧ Reps R vs [.str x, .int i] := by
  cases h with
  | cons h1 h2 => cases h2 with
    | cons h3 h4 =>
      cases h4
      obtain ⟨i, hi, a⟩ := h3
      exact ⟨i, hi, .cons h1 (.cons a .nil)⟩
theorem two_tup {R : Hp} {vs : List V} {x : Str} {P P' : Int → Prop} (h : HoldsAll R vs [dp (.str x), inA P, inA P']) : ∃ i j, P i ∧ P' j ∧ Reps R vs [.str x, .int i, .int j] := by
  cases h with
  | cons h1 h2 => cases h2 with
    | cons h3 h4 =>
      cases h4 with
      | cons h5 h6 =>
        cases h6
        obtain ⟨i, hi, a⟩ := h3
        obtain ⟨j, hj, b⟩ := h5
        exact ⟨i, j, hi, hj, .cons h1 (.cons a (.cons b .nil))⟩
abbrev sLawRow : Stmt := topS 65
abbrev nLawRow : List Str := ["_law_deck_here", "_law_inputs", "_law_many", "_law_most", "_law_number_here", "_law_ends", "_law_steps", "_law_found", "_law_word", "_law_step", "_law_k"]
theorem scLawRow : FnScope nLawRow ["_law_deck_here", "_law_inputs", "_law_many", "_law_most"] (defScope sLawRow) := ⟨rfl, rfl, rfl, by decide +kernel, rfl, by decide +kernel, by decide +kernel⟩
def spRow : Sp := fun vs H Q _ => ∃ (a b d : Addr) (Ms : MS) (P : Nat → Prop) (many : Nat), (∀ n, P n → n ≤ 20) ∧ 1 ≤ many ∧ many ≤ 400 ∧ Dr a b d Ms [valA (.ref a), exA P fun n => dp (.int (n : Int)), dp (.int (many : Int)), dp (.int 64)] (rowA fun r => ∃ n, P n ∧ Drawn r n many) vs H Q
theorem cal_law_row (T : Txt K mg) (c_law_draw : C8.Cal P w K mg base 1 "_law_draw" spDraw []) (c_law_one : C8.Cal P w K mg base 2 "_law_one" spOne []) (c_law_size : C8.Cal P w K mg base 1 "_law_size" spSize []) : C8.Cal P w K mg base 3 "_law_row" spRow [] := by
  refine mk_cal (x := "_law_row") (i := 65) (j := 49) T rfl scLawRow (fun _ _ _ _ _ _ us hl => match us, hl with | [_, _, _, _], _ => rfl) (fun vs H Q E h => ?_) (fun f cdv A outer s H vs Q E hr h => ?_)
  · obtain ⟨a, b, d, Ms, P0, many, _, _, _, R, _, _, h, _⟩ := h
    exact (paired_len h).trans rfl
  obtain ⟨a, b, d, Ms, P0, many, hP0, hm1, hm2, R, wf, mu, ha, q⟩ := h
  refine ⟨_, (pss_cons (ps_asg (pe_tup (pa_cons (pe_lst pa_nil) (pa_cons (pe_lst pa_nil) pa_nil))) (k_pg_tup K (n := 2) rfl (pgs_cons (pg_name (i := 6) scLawRow.nd rfl (by first | exact Or.inl rfl | exact Or.inr rfl)) (pgs_cons (pg_name (i := 7) scLawRow.nd rfl (by first | exact Or.inl rfl | exact Or.inr rfl)) pgs_nil))))
      (pss_cons (ps_for PassesOwn.never rfl (pi_range1 rfl T.b_range (pa_cons (pe_op op_add pe_int (C8.pe_c c_law_draw hr (by decide) rfl (pa_cons (pv 0) (pa_cons (pv 2) pa_nil)))) pa_nil)) (pg_name (i := 4) scLawRow.nd rfl (by first | exact Or.inl rfl | exact Or.inr rfl))
      (pss_cons (ps_set (i := 8) scLawRow.nd rfl (by first | exact Or.inl rfl | exact Or.inr rfl) (C8.pe_c c_law_one hr (by decide) rfl (pa_cons (pv 0) (pa_cons (pe_lst (pa_cons pe_str (pa_cons pe_str (pa_cons pe_str (pa_cons pe_str (pa_cons pe_str (pa_cons pe_str (pa_cons pe_str (pa_cons pe_str (pa_cons pe_str (pa_cons pe_str (pa_cons pe_str pa_nil)))))))))))) pa_nil))))
      (C8.pss_cut (ps_if (PW.pt (pw_and (pt_cmpR op_lt (pv 4) (pv 1) (nomark _)) (pw_and1 (pt_cmpR op_gt (C8.pe_c c_law_draw hr (by decide) rfl (pa_cons (pv 0) (pa_cons pe_int pa_nil))) pe_int (nomark _))))) (pss_one (ps_set (i := 8) scLawRow.nd rfl (by first | exact Or.inl rfl | exact Or.inr rfl) pe_str)) pss_nil)
      (pss_cons (ps_set (i := 9) scLawRow.nd rfl (by first | exact Or.inl rfl | exact Or.inr rfl) (pe_tup (pa_cons pe_str (pa_cons (pe_op op_sub (C8.pe_c c_law_draw hr (by decide) rfl (pa_cons (pv 0) (pa_cons pe_int pa_nil))) pe_int) pa_nil))))
      (C8.pss_cut (ps_if (PW.pt (pw_and (pt_cmpR op_eq (pv 8) pe_str (nomark _)) (pw_and1 (pt_cmpR op_gt (pv 1) pe_int (nomark _))))) (pss_one (ps_set (i := 9) scLawRow.nd rfl (by first | exact Or.inl rfl | exact Or.inr rfl) (pe_tup (pa_cons pe_str (pa_cons (pe_ifExp (pt_cmpR op_lt (pv 4) (pv 1) (nomark _)) (pv 4) (C8.pe_c c_law_draw hr (by decide) rfl (pa_cons (pv 0) (pa_cons (pv 1) pa_nil)))) pa_nil))))) pss_nil)
      (C8.pss_cut (ps_if (PW.pt (pw_and (pt_cmpR op_eq (pv 8) pe_str (nomark _)) (pw_and1 (pt_cmpR op_gt (pv 4) pe_int (nomark _))))) (pss_one (ps_set (i := 9) scLawRow.nd rfl (by first | exact Or.inl rfl | exact Or.inr rfl) (pe_tup (pa_cons pe_str (pa_cons (C8.pe_c c_law_draw hr (by decide) rfl (pa_cons (pv 0) (pa_cons (pv 4) pa_nil))) pa_nil))))) pss_nil)
      (C8.pss_cut (ps_if (PW.pt (pw_and (pt_cmpR (k_in K) (pv 8) (pe_tup (pa_cons pe_str (pa_cons pe_str (pa_cons pe_str pa_nil)))) (by rfl)) (pw_and1 (pt_cmpR op_gt (pv 4) pe_int (nomark _))))) (pss_one (ps_set (i := 9) scLawRow.nd rfl (by first | exact Or.inl rfl | exact Or.inr rfl) (pe_tup (pa_cons (pv 8) (pa_cons (C8.pe_c c_law_draw hr (by decide) rfl (pa_cons (pv 0) (pa_cons (pv 4) pa_nil))) (pa_cons (pe_op op_sub (pe_op op_sub (pv 4) pe_int) (C8.pe_c c_law_draw hr (by decide) rfl (pa_cons (pv 0) (pa_cons (pe_callB (call_min2 rfl) (by rfl) T.b_min b_min (pa_cons (pv 4) (pa_cons pe_int pa_nil))) pa_nil)))) pa_nil)))))) pss_nil)
      (C8.pss_cut (ps_if (pt_cmpR op_gt (C8.pe_c c_law_size hr (by decide) rfl (pa_cons (pv 9) (pa_cons (pv 7) pa_nil))) (pv 3) (nomark _)) (pss_one (ps_set (i := 9) scLawRow.nd rfl (by first | exact Or.inl rfl | exact Or.inr rfl) (pe_op (k_catA K) (pe_tup (pa_cons pe_str pa_nil)) (pe_slice (k_slT K) (pv 9) (po_some pe_int) po_none)))) pss_nil)
      (pss_cons (ps_expr (k_bm K PySem.F.plainAttrs_list PySem.F.slot_list_append PySem.F.type_list_append mt_append (pv 6) (pa_cons (pv 9) pa_nil)))
      (pss_one (ps_expr (k_bm K PySem.F.plainAttrs_list PySem.F.slot_list_append PySem.F.type_list_append mt_append (pv 7) (pa_cons (C8.pe_c c_law_size hr (by decide) rfl (pa_cons (pv 9) (pa_cons (pv 7) pa_nil))) pa_nil)))))))))))))
      (pss_cons (ps_set (i := 5) scLawRow.nd rfl (by first | exact Or.inl rfl | exact Or.inr rfl) (pe_op op_cat (pe_lst (pa_cons (pe_op op_sub (pe_callB (k_len K) (by rfl) T.b_len b_len (pa_cons (pv 6) pa_nil)) pe_int) pa_nil)) (pe_lc (own := [("_law_k", 10)]) rfl scLawRow.nd (pi_range1 rfl T.b_range (pa_cons (C8.pe_c c_law_draw hr (by decide) rfl (pa_cons (pv 0) (pa_cons pe_int pa_nil))) pa_nil)) (blkOk_by (own := [("_law_k", 10)]) (N := nLawRow) (sc := defScope sLawRow) (by decide +kernel)) (fun _ _ _ _ _ => (pg_name (i := 10) scLawRow.nd rfl (by first | exact Or.inl rfl | exact Or.inr rfl))) (fun _ _ _ _ _ => pts_nil) (fun _ _ _ _ _ => (C8.pe_c c_law_draw hr (by decide) rfl (pa_cons (pv 0) (pa_cons (pe_callB (k_len K) (by rfl) T.b_len b_len (pa_cons (pv 6) pa_nil)) pa_nil)))))))
      (pss_one (ps_ret (pe_tup (pa_cons (pv 1) (pa_cons (pe_callTy (k_tupof K) (by rfl) T.b_tuple b_tuple (pa_cons (pv 6) pa_nil)) (pa_cons (pe_callTy (k_tupof K) (by rfl) T.b_tuple b_tuple (pa_cons (pv 5) pa_nil)) pa_nil))))))))), ?_⟩
  refine go_startK wf mu ha ?_
  refine go_openX (P := P0) (F := fun n => dp (.int (n : Int))) 1 (by rfl) fun inp hinp => ?_
  have hin := hP0 inp hinp
  refine go_seq (go_tupNN (EvL.n el_lst0) (fun p => EvL.n el_lst0) fun ps pf hps hpf => ?_)
  refine go_seq (go_forX (P := fun n : Int => 1 ≤ n ∧ n ≤ many) (ei_r1X (ev_addX (P1 := fun i => i = 1) (Ev.inA ev_int rfl) (ev_draw (ev_var (by rfl)) (ev_var (by rfl)) (by omega) (by omega)) (fun i j h1 h2 => by subst h1; omega)) (fun n h => by omega))
    (fun n i Ms2 As2 => ∃ st, Dra st inp ∧ st.length = i ∧ Ms2 = (pf, .lst (intsD (sizesOf st))) :: (ps, .lst (st.map encS)) :: Ms ∧ ∃ X4 X8 X9, As2 = [some (valA (.ref a)), some (dp (.int (inp : Int))), some (dp (.int (many : Int))), some (dp (.int 64)), X4, none, some (valA (.ref ps)), some (valA (.ref pf)), X8, X9, none])
    (fun n hn => ⟨[], Dra.nil, rfl, rfl, _, _, _, rfl⟩) ?_ ?_)
  · rintro n hn Rb hb i dd _ _ hd ⟨st, dr, hst, rfl, X4, X8, X9, rfl⟩
    obtain ⟨hi, rfl⟩ := rgD_get hd
    have hi2 : i < 400 := by omega
    have e0 : (0 : Int) + (i : Int) = (i : Int) := Int.zero_add _
    rw [e0]
    dsimp only
    have lim : ∀ x ∈ [PyData.str "in", .str "in", .str "set", .str "neg", .str "+", .str "+", .str "-", .str "-", .str "*", .str "*", .str "*"], ∃ y : Str, True ∧ x = .str y := by
      intro x hx
      simp only [List.mem_cons, List.not_mem_nil, or_false] at hx
      rcases hx with rfl | rfl | rfl | rfl | rfl | rfl | rfl | rfl | rfl | rfl | rfl <;> exact ⟨_, trivial, rfl⟩
    refine go_seq (go_asgX (P := fun _ : Str => True) (F := fun y => dp (.str y)) (Ev.exle (ev_one (ev_var (by rfl)) (Ev.ls (EvL.ev (el_lst (ds := [.str "in", .str "in", .str "set", .str "neg", .str "+", .str "+", .str "-", .str "-", .str "*", .str "*", .str "*"]) (ea_cons ev_str (ea_cons ev_str (ea_cons ev_str (ea_cons ev_str (ea_cons ev_str (ea_cons ev_str (ea_cons ev_str (ea_cons ev_str (ea_cons ev_str (ea_cons ev_str (ea_cons ev_str ea_nil)))))))))))))) (by simp) (by decide)) fun x hx => by
        obtain ⟨y, hy, rfl⟩ := lim x hx
        exact ⟨y, trivial, fun _ _ a => a⟩) fun wd _ => ?_)
    dsimp only
    -- the first ifs: the word
    refine go_cut (fun Ms2 As2 => ∃ wd : Str, Ms2 = (pf, .lst (intsD (sizesOf st))) :: (ps, .lst (st.map encS)) :: Ms ∧ ∃ X9, As2 = [some (valA (.ref a)), some (dp (.int (inp : Int))), some (dp (.int (many : Int))), some (dp (.int 64)), some (dp (.int (i : Int))), none, some (valA (.ref ps)), some (valA (.ref pf)), some (dp (.str wd)), X9, none]) ?_ ?_
    · refine go_ifP (ep_and (P1 := fun _ => True) (P2 := fun _ => True) (EvT.p (et_B (ev_lt (ev_var (by rfl)) (ev_var (by rfl)))) trivial) (fun _ => (ep_B (ev_cmpX (ev_draw (many := 4) (ev_var (by rfl)) ev_int (by decide) (by decide)) (Ev.inA (P := fun i => i = 0) ev_int rfl))).le fun _ _ => trivial)) (fun _ => ?_) (fun _ => go_next (go_inv ⟨wd, rfl, _, rfl⟩))
      exact go_asg ev_str (go_inv ⟨"in", rfl, _, rfl⟩)
    rintro _ _ ⟨wd, rfl, X9, rfl⟩
    let I : MS → AS → Prop := fun Ms2 As2 => ∃ s : Stp, Sok st.length inp s ∧ Ms2 = (pf, .lst (intsD (sizesOf st))) :: (ps, .lst (st.map encS)) :: Ms ∧ As2 = [some (valA (.ref a)), some (dp (.int (inp : Int))), some (dp (.int (many : Int))), some (dp (.int 64)), some (dp (.int (i : Int))), none, some (valA (.ref ps)), some (valA (.ref pf)), some (dp (.str wd)), some (dp (encS s)), none]
    refine go_seq (go_asgX (P := fun s : Stp => Sok st.length inp s) (F := fun s => dp (encS s)) (ev_tupX (ea_cons ev_str (ea_cons (ev_subX (P := fun i => i.natAbs ≤ 4) (ev_draw (many := 9) (ev_var (by rfl)) ev_int (by decide) (by decide)) (Ev.inA (P := fun i => i = 4) ev_int rfl) (fun i j h1 h2 => by
        obtain ⟨h3, h4⟩ := h1
        have h4 : i < 9 := h4
        subst h2
        show (i - 4).natAbs ≤ 4
        omega)) ea_nil)) (by simp) fun R vs h => by
      obtain ⟨k, hk, r⟩ := set_tup h
      exact ⟨.st k, _, ⟨fun u hu => by simp [Stp.uses] at hu, fun k e => (by cases e), fun c e => by cases e; exact hk⟩, rfl, r⟩) fun s hs => ?_)
    dsimp only
    refine go_cut I ?_ ?_
    · refine go_if (et_and (et_B (ev_eqs (ev_var (by rfl)) ev_str)) (fun _ => et_B (ev_gt (ev_var (by rfl)) ev_int))) (fun hb => ?_) (fun _ => go_next (go_inv ⟨s, hs, rfl, rfl⟩))
      rw [Bool.and_eq_true] at hb
      have hpos := of_decide_eq_true hb.2
      refine go_asgX (P := fun s : Stp => Sok st.length inp s) (F := fun s => dp (encS s)) (ev_tupX (ea_cons ev_str (ea_cons (A := inA fun k => 0 ≤ k ∧ k < (inp : Int)) (ev_if (et_B (ev_lt (ev_var (by rfl)) (ev_var (by rfl)))) (fun hc => Ev.inA (ev_var (by rfl)) (by have := of_decide_eq_true hc; exact ⟨by omega, this⟩)) (fun hc => ev_draw (ev_var (by rfl)) (ev_var (by rfl)) (by omega) (by omega))) ea_nil)) (by simp) fun R vs h => by
        obtain ⟨k, hk, r⟩ := set_tup h
        have e : k = (k.toNat : Int) := by omega
        exact ⟨.inn k.toNat, _, ⟨fun u hu => by simp [Stp.uses] at hu, fun k' e => by cases e; omega, fun c e => by cases e⟩, rfl, by rw [e] at r; exact r⟩) fun s hs => go_inv ⟨s, hs, rfl, rfl⟩
    rintro _ _ ⟨s, hs, rfl, rfl⟩
    refine go_cut I ?_ ?_
    · refine go_if (et_and (et_B (ev_eqs (ev_var (by rfl)) ev_str)) (fun _ => et_B (ev_gt (ev_var (by rfl)) ev_int))) (fun hb => ?_) (fun _ => go_next (go_inv ⟨s, hs, rfl, rfl⟩))
      rw [Bool.and_eq_true] at hb
      have hpos := of_decide_eq_true hb.2
      refine go_asgX (P := fun s : Stp => Sok st.length inp s) (F := fun s => dp (encS s)) (ev_tupX (ea_cons ev_str (ea_cons (ev_draw (ev_var (by rfl)) (ev_var (by rfl)) (by omega) (by omega)) ea_nil)) (by simp) fun R vs h => by
        obtain ⟨k, hk, r⟩ := set_tup h
        have e : k = (k.toNat : Int) := by omega
        exact ⟨.neg k.toNat, _, ⟨fun u hu => by simp [Stp.uses] at hu; omega, fun k' e => (by cases e), fun c e => by cases e⟩, rfl, by rw [e] at r; exact r⟩) fun s hs => go_inv ⟨s, hs, rfl, rfl⟩
    rintro _ _ ⟨s, hs, rfl, rfl⟩
    refine go_cut I ?_ ?_
    · refine go_if (et_and (et_B (ev_inS (neg := false) (xs := ["+", "-", "*"]) (ev_var (by rfl)) (ev_tup3 ev_str ev_str ev_str))) (fun _ => et_B (ev_gt (ev_var (by rfl)) ev_int))) (fun hb => ?_) (fun _ => go_next (go_inv ⟨s, hs, rfl, rfl⟩))
      rw [Bool.and_eq_true] at hb
      have hpos := of_decide_eq_true hb.2
      have hw : wd ∈ (["+", "-", "*"] : List Str) := of_decide_eq_true hb.1
      have hmin : (min (i : Int) 3) = ((min i 3 : Nat) : Int) := by omega
      refine go_asgX (P := fun s : Stp => Sok st.length inp s) (F := fun s => dp (encS s)) (ev_tupX (ea_cons (ev_var (A := dp (.str wd)) (by rfl)) (ea_cons (ev_draw (ev_var (by rfl)) (ev_var (by rfl)) (by omega) (by omega)) (ea_cons (ev_subX (P := fun k => 0 ≤ k ∧ k < (i : Int)) (ev_subX (P1 := fun k => k = (i : Int)) (P := fun k => k = (i : Int) - 1) (Ev.inA (ev_var (by rfl)) rfl) (Ev.inA (P := fun k => k = 1) ev_int rfl) (fun x y h1 h2 => by rw [h1, h2])) (ev_draw (many := min i 3) (ev_var (by rfl)) ((ev_min2 (ev_var (by rfl)) ev_int).to (by rw [hmin])) (by omega) (by omega)) (fun x y h1 h2 => by omega)) ea_nil))) (by simp) fun R vs h => by
        obtain ⟨k, l, hk, hl, r⟩ := two_tup h
        have e : k = (k.toNat : Int) := by omega
        have e2 : l = (l.toNat : Int) := by omega
        rw [e, e2] at r
        simp only [List.mem_cons, List.not_mem_nil, or_false] at hw
        rcases hw with rfl | rfl | rfl
        · exact ⟨.add k.toNat l.toNat, _, ⟨fun u hu => by simp [Stp.uses] at hu; omega, fun k' e => (by cases e), fun c e => by cases e⟩, rfl, r⟩
        · exact ⟨.sub k.toNat l.toNat, _, ⟨fun u hu => by simp [Stp.uses] at hu; omega, fun k' e => (by cases e), fun c e => by cases e⟩, rfl, r⟩
        · exact ⟨.mul k.toNat l.toNat, _, ⟨fun u hu => by simp [Stp.uses] at hu; omega, fun k' e => (by cases e), fun c e => by cases e⟩, rfl, r⟩) fun s hs => go_inv ⟨s, hs, rfl, rfl⟩
    rintro _ _ ⟨s, hs, rfl, rfl⟩
    have ez : ∀ (s : Stp), Sok st.length inp s → ∀ u ∈ s.uses, u < (sizesOf st).length := fun s hs u hu => by rw [sizesOf_len]; exact hs.1 u hu
    refine go_cut (fun Ms2 As2 => ∃ s : Stp, Sok st.length inp s ∧ s.measure (sizesOf st) 1 ≤ 64 ∧ Ms2 = (pf, .lst (intsD (sizesOf st))) :: (ps, .lst (st.map encS)) :: Ms ∧ As2 = [some (valA (.ref a)), some (dp (.int (inp : Int))), some (dp (.int (many : Int))), some (dp (.int 64)), some (dp (.int (i : Int))), none, some (valA (.ref ps)), some (valA (.ref pf)), some (dp (.str wd)), some (dp (encS s)), none]) ?_ ?_
    · refine go_if (et_B (ev_gt (ev_call (r := dp (.int (s.measure (sizesOf st) 1))) (ea_cons (ev_var (by rfl)) (ea_cons (Ev.own (ds := intsD (sizesOf st)) (Ms' := [(pf, Mc.lst (intsD (sizesOf st)))]) (ev_var (by rfl)) (by simp)) ea_nil)) (fun vs H Q h => ⟨_, _, s, sizesOf st, by intro x hx; rw [List.mem_singleton.mp hx]; simp, ez s hs, h⟩)) (ev_var (by rfl)))) (fun hb => ?_) (fun hb => go_next (go_inv ⟨s, hs, ?_, rfl, rfl⟩))
      · have hgt := of_decide_eq_true hb
        obtain ⟨k, l, rfl⟩ := hs.big dr (by omega)
        obtain ⟨h1, h2⟩ := hs.add dr
        exact go_asg (A := dp (encS (.add k l))) ((ev_catT (ds := [.str "+"]) (es := [.int (k : Int), .int (l : Int)]) (ev_tup1 ev_str) ((ev_slT (ev_var (A := dp (encS (.mul k l))) (by rfl)) (eo_some ev_int) eo_none).to (by rfl)) (by simp)).to (by rfl)) (go_inv ⟨.add k l, h1, h2, rfl, rfl⟩)
      · have := of_decide_eq_false hb
        omega
    rintro _ _ ⟨s, hs, hm, rfl, rfl⟩
    refine go_seq (go_app 1 (ev_var (by rfl)) (ev_var (by rfl)) (by rfl) hps (by simp; omega) ?_)
    dsimp only
    refine go_app 0 (ev_var (by rfl)) (ev_call (r := dp (.int (s.measure (sizesOf st) 1))) (ea_cons (ev_var (by rfl)) (ea_cons (Ev.own (ds := intsD (sizesOf st)) (Ms' := [(pf, Mc.lst (intsD (sizesOf st)))]) (ev_var (by rfl)) (by simp)) ea_nil)) (fun vs H Q h => ⟨_, _, s, sizesOf st, by intro x hx; rw [List.mem_singleton.mp hx]; simp, ez s hs, h⟩)) (by rfl) hpf (by rw [ints_len, sizesOf_len]; omega) (go_inv ⟨st ++ [s], dr.snoc hs hm, by simp [hst], ?_, _, _, _, rfl⟩)
    rw [sizesOf_snoc]
    show _ = (pf, Mc.lst (List.map _ (_ ++ _))) :: (ps, Mc.lst (List.map _ (_ ++ _))) :: Ms
    rw [List.map_append, List.map_append]
    rfl
  · rintro n hn _ _ ⟨st, dr, hst, rfl, X4, X8, X9, rfl⟩
    rw [rgD_len] at hst
    have hpos : 0 < st.length := by omega
    have hle : st.length ≤ many := by omega
    have e1 : (st.map encS).length = st.length := List.length_map _
    have hsub : [(ps, Mc.lst (st.map encS))] ⊆ (pf, Mc.lst (intsD (sizesOf st))) :: (ps, Mc.lst (st.map encS)) :: Ms := by intro x hx; rw [List.mem_singleton.mp hx]; simp
    dsimp only
    have hlen : ∀ {Bs : AS}, Bs[6]? = some (some (valA (.ref ps))) → Ev (deckK a b d) ((pf, Mc.lst (intsD (sizesOf st))) :: (ps, Mc.lst (st.map encS)) :: Ms) Bs (tCB (fun xs H Q => ∃ p ys, xs = [.ref p] ∧ (SqL K H p ys ∨ SqT K H p ys) ∧ Q (.int ys.length) H) (tCons (tVar 6) tNil)) (dp (.int (st.length : Int))) := fun h => (ev_len (ds := st.map encS) (Ms' := [(ps, Mc.lst (st.map encS))]) (Ev.sqO (ev_var h) (by simp)) hsub).to (by rw [e1])
    refine go_seq (go_asgX (P := fun ends : List Nat => ends ≠ [] ∧ ends.length ≤ 8 ∧ ∀ e ∈ ends, e < st.length) (F := fun ends => dp (.list (natsD ends))) ((ev_opL2 (C := fun ds => dp (.list (.int ((st.length : Int) - 1) :: ds))) (EvL.ev (el_lst1 (ev_sub (hlen (by rfl)) ev_int))) (EvLX.ev (el_lcX (fun i : Nat => PyData.int (0 + (i : Int))) (fun k : Int => PyData.int k) (fun _ k => 0 ≤ k ∧ k < (st.length : Int)) (Pi := fun i => 0 ≤ i ∧ i < ((3 : Nat) : Int)) (xs := fun n => List.range n.toNat) (ei_r1X (ev_draw (many := 3) (ev_var (by rfl)) ev_int (by decide) (by decide)) (fun n h => by omega)) (fun _ => tg_name) (fun n hn x hx => ev_draw (ev_var (by rfl)) (hlen (by rfl)) hpos (by omega)) (fun n hn => by simp; omega) (by decide))) (fun ds hds => EvL.ev (el_cat (ds := [.int ((st.length : Int) - 1)]) (Ev.ls (ev_var rfl)) (Ev.ls (ev_var rfl)) ?_))).exle fun ds hds => ?_) fun ends he => ?_)
    · obtain ⟨n, hn, bs, hp, rfl⟩ := hds
      have := paired_len hp
      rw [List.length_range] at this
      rw [List.length_map]
      show 1 + bs.length ≤ 100000
      omega
    · obtain ⟨n, hn, bs, hp, rfl⟩ := hds
      have hl := paired_len hp
      rw [List.length_range] at hl
      have hall := paired_all (G := fun k : Int => 0 ≤ k ∧ k < (st.length : Int)) (fun _ _ h => h) hp
      have e : bs.map (fun k : Int => PyData.int k) = natsD (bs.map Int.toNat) := by
        show _ = (bs.map _).map _
        rw [List.map_map]
        refine List.map_congr_left fun k hk => ?_
        have := hall k hk
        show PyData.int k = .int ((k.toNat : Nat) : Int)
        congr 1
        omega
      refine ⟨(st.length - 1) :: bs.map Int.toNat, ⟨by simp, by simp; omega, fun e he => ?_⟩, fun R v aa => ?_⟩
      · rcases List.mem_cons.mp he with rfl | he
        · omega
        · obtain ⟨k, hk, rfl⟩ := List.mem_map.mp he
          have := hall k hk
          omega
      · have e2 : (.int ((st.length : Int) - 1) :: bs.map fun k : Int => PyData.int k) = natsD ((st.length - 1) :: bs.map Int.toNat) := by
          rw [e]
          show _ = PyData.int (((st.length - 1 : Nat)) : Int) :: natsD _
          congr 2
          omega
        have aa' : Rep R v (.list (.int ((st.length : Int) - 1) :: bs.map fun k : Int => PyData.int k)) := aa
        rw [e2] at aa'
        exact aa'
    · obtain ⟨h1, h2, h3⟩ := he
      refine go_ret (by exact q) (Ev.le (B := rowA fun r => ∃ n, P0 n ∧ Drawn r n many) (ev_tup3 (d := .int (inp : Int)) (e := .tuple (st.map encS)) (f := .tuple (natsD ends)) (ev_var (by rfl)) (ev_tupleOf (Ev.own (Ms' := [(ps, Mc.lst (st.map encS))]) (ev_var (by rfl)) (by simp)) hsub) (ev_tupleOf (Ev.ls (ev_var (by rfl))))) fun R v aa => ⟨⟨inp, st, ends⟩, ⟨inp, hinp, Dra.ok (r := ⟨inp, st, ends⟩) dr h3 h1 (by show st.length ≤ 1000; omega) (by show ends.length ≤ 1000; omega), dr, rfl, hle, hpos, h2⟩, aa⟩)
end
end Rb
end
section
set_option Elab.async false
set_option linter.all false
set_option autoImplicit false
set_option maxRecDepth 100000
set_option maxHeartbeats 4000000
set_option exponentiation.threshold 500000
namespace Rb
open PySem PySem.Spec PyProof.Rows L2
section
variable {c : Kx} {H0 R0 : Hp} {Ms : MS} {As : AS} {ta tb te : TE} {A B : Asr} {K : PySem.W.Frag} {D : Ends} {C : L2.St → Hp → Prop}
theorem Muts.weak {H R : Hp} {Ms2 : MS} (m : Muts c Ms H R) (h : Ms2.Sublist Ms) : Muts c Ms2 H R := ⟨m.nd.sublist (h.map _), fun e he => m.off e (h.subset he), fun e he => m.hid e (h.subset he), fun e he => m.ok e (h.subset he)⟩
theorem go_weak {Ms2 : MS} (h : Ms2.Sublist Ms) (k : Go c H0 R0 Ms2 As C) : Go c H0 R0 Ms As C := fun σ H R g s => k σ H R g ⟨s.wf, s.mu.weak h, s.sl⟩
theorem repK_keys {R : Hp} : ∀ {es : List (Key × V)} {kvs : List (Int × PyData)}, RepK R es kvs → es.map (fun kv => kV kv.1) = (kvs.map Prod.fst).map V.int
  | _, _, .nil => rfl
  | _, _, .cons (a := e) (b := k) h t => by
    rw [List.map_cons, List.map_cons, List.map_cons, repK_keys t, h.1]
    rfl
theorem el_listDK {Ms' : MS} {kvs : List (Int × PyData)} (h : Ev c Ms As ta (dkA Ms' kvs)) (hs : Ms' ⊆ Ms := by first | exact List.nil_subset _ | exact List.Subset.refl _ | simp) :
    EvL c Ms As (tCB rListD (tCons ta tNil)) (intsD (kvs.map Prod.fst)) :=
  el_cb1 h fun H R x w m a Q q => by
    obtain ⟨p, es, rfl, e1, r⟩ := dkA.at_ a hs w m
    refine ⟨p, es, rfl, e1, fun p' hn => ?_⟩
    rw [repK_keys r]
    exact q p' _ _ R (.lay w hn) hn (w.none hn) upd_same (.of_ints _)
end
/-! ### needed, by a stack -/
def trueD (f : List Nat) : List (Int × PyData) := f.map fun x : Nat => ((x : Int), PyData.bool true)
theorem trueD_get (f : List Nat) (x : Nat) : (getK (trueD f) (x : Int)).isSome = decide (x ∈ f) := by
  induction f with
  | nil => rfl
  | cons y f ih =>
    show (getK (((y : Int), PyData.bool true) :: trueD f) (x : Int)).isSome = _
    unfold getK at ih ⊢
    rw [List.find?_cons]
    by_cases h : y = x
    · subst h; simp
    · have e : decide ((y : Int) = (x : Int)) = false := decide_eq_false (by omega)
      simp only [e]
      rw [ih]
      have : ¬ x = y := fun e => h e.symm
      simp [this]
structure Stk (r : Row) (f w : List Nat) : Prop where
  nodup : f.Nodup
  ends : ∀ e ∈ r.ends, e ∈ f ∨ e ∈ w
  uses : ∀ x ∈ f, ∀ u ∈ r.uses x, u ∈ f ∨ u ∈ w
  from_ : ∀ x, x ∈ f ∨ x ∈ w → x ∈ r.ends ∨ ∃ y ∈ f, x ∈ r.uses y
theorem Stk.lt {r : Row} (ok : r.Ok) {f w : List Nat} (h : Stk r f w) {x : Nat} (hx : x ∈ f ∨ x ∈ w) : x < r.steps.length := by
  rcases h.from_ x hx with h | ⟨y, _, hu⟩
  · exact ok.ends x h
  · have h1 := ok.use hu
    by_cases hy : y < r.steps.length
    · omega
    · exfalso
      have : r.uses y = [] := by
        unfold Row.uses Row.step
        rw [List.getD_eq_getElem?_getD, List.getElem?_eq_none (by omega)]
        rfl
      rw [this] at hu
      cases hu
theorem Stk.start (r : Row) : Stk r [] r.ends := ⟨List.nodup_nil, fun e he => .inr he, fun x hx => (by cases hx), fun x hx => Or.elim hx (fun h => by cases h) (fun h => .inl h)⟩
theorem Stk.skip {r : Row} {f w : List Nat} {x : Nat} (h : Stk r f (w ++ [x])) (hx : x ∈ f) : Stk r f w := by
  have k : ∀ z, z ∈ f ∨ z ∈ w ++ [x] → z ∈ f ∨ z ∈ w := fun z hz => by
    rcases hz with hz | hz
    · exact .inl hz
    · rcases List.mem_append.mp hz with hz | hz
      · exact .inr hz
      · rw [List.mem_singleton.mp hz]; exact .inl hx
  exact ⟨h.nodup, fun e he => k e (h.ends e he), fun x hx u hu => k u (h.uses x hx u hu), fun z hz => h.from_ z (hz.imp id fun hz => List.mem_append_left _ hz)⟩
theorem Stk.take {r : Row} {f w : List Nat} {x : Nat} (h : Stk r f (w ++ [x])) (hx : x ∉ f) : Stk r (f ++ [x]) (w ++ setN (r.uses x)) := by
  have k : ∀ z, z ∈ f ∨ z ∈ w ++ [x] → z ∈ f ++ [x] ∨ z ∈ w ++ setN (r.uses x) := fun z hz => by
    rcases hz with hz | hz
    · exact .inl (List.mem_append_left _ hz)
    · rcases List.mem_append.mp hz with hz | hz
      · exact .inr (List.mem_append_left _ hz)
      · exact .inl (List.mem_append_right _ hz)
  have l : ∀ z, (z ∈ r.ends ∨ ∃ y ∈ f, z ∈ r.uses y) → z ∈ r.ends ∨ ∃ y ∈ f ++ [x], z ∈ r.uses y := fun z hz => hz.imp id fun ⟨y, hy, hu⟩ => ⟨y, List.mem_append_left _ hy, hu⟩
  refine ⟨?_, fun e he => k e (h.ends e he), fun y hy u hu => ?_, fun z hz => ?_⟩
  · rw [List.nodup_append]
    refine ⟨h.nodup, by simp, fun a ha b hb e => ?_⟩
    rw [List.mem_singleton.mp hb] at e
    subst e
    exact hx ha
  · rcases List.mem_append.mp hy with hy | hy
    · exact k u (h.uses y hy u hu)
    · rw [List.mem_singleton.mp hy] at hu
      exact .inr (List.mem_append_right _ (mem_setN.mpr hu))
  · rcases hz with hz | hz
    · rcases List.mem_append.mp hz with hz | hz
      · exact l z (h.from_ z (.inl hz))
      · rw [List.mem_singleton.mp hz]
        exact l x (h.from_ x (.inr (by simp)))
    · rcases List.mem_append.mp hz with hz | hz
      · exact l z (h.from_ z (.inr (List.mem_append_left _ hz)))
      · exact .inr ⟨x, by simp, mem_setN.mp hz⟩
theorem Stk.len {r : Row} (ok : r.Ok) {f w : List Nat} (h : Stk r f w) : f.length ≤ r.steps.length := by
  have := nodup_sub_len h.nodup (m := List.range r.steps.length) (fun x hx => List.mem_range.mpr (h.lt ok (.inl hx)))
  rwa [List.length_range] at this
theorem Stk.end_ {r : Row} (ok : r.Ok) {f : List Nat} (h : Stk r f []) : (needed r).Perm f := by
  have e := nd_unique ok (S := fun x => x ∈ f) (fun x => ⟨fun hx => h.from_ x (.inl hx), fun hx => by
    rcases hx with hx | ⟨y, hy, hu⟩
    · exact Or.elim (h.ends x hx) (fun z => z) (fun z => by cases z)
    · exact Or.elim (h.uses y hy x hu) (fun z => z) (fun z => by cases z)⟩) (fun x hx => h.lt ok (.inl hx))
  exact (List.perm_ext_iff_of_nodup (needed_nodup r) h.nodup).mpr fun x => (e x).symm
section
variable {P : Program} {w : World} {K : PySem.W.Frag} {mg : Str → Option Value} {base : Heap}
abbrev sLawNeeded : Stmt := topS 67
abbrev nLawNeeded : List Str := ["_law_row_here", "_law_found", "_law_waiting", "_law_turn", "_law_number_here"]
theorem scLawNeeded : FnScope nLawNeeded ["_law_row_here"] (defScope sLawNeeded) := ⟨rfl, rfl, rfl, by decide +kernel, rfl, by decide +kernel, by decide +kernel⟩
def spLawNeeded : Sp := fun vs H Q _ => ∃ (Ms : MS) (r : Row), r.Ok ∧ r.steps.length ≤ 60 ∧ r.ends.length ≤ 60 ∧ Pu Ms [dp (encR r)] (dp (.list (natsD (needed r)))) vs H Q
theorem cal_law_needed (T : Txt K mg) (c_law_used : C8.Cal P w K mg base 1 "_law_used" spUsed []) : C8.Cal P w K mg base 2 "_law_needed" spLawNeeded [] := by
  refine mk_cal (x := "_law_needed") (i := 67) (j := 51) T rfl scLawNeeded (fun _ _ _ _ _ _ us hl => match us, hl with | [_], _ => rfl) (fun vs H Q E h => ?_) (fun f cdv A outer s H vs Q E hr h => ?_)
  · obtain ⟨Ms, r, _, _, _, R, _, _, h, _⟩ := h
    exact (paired_len h).trans rfl
  obtain ⟨Ms, r, ok, hs, he, R, wf, mu, ha, q⟩ := h
  refine ⟨_, (pss_cons (ps_set (i := 1) scLawNeeded.nd rfl (by first | exact Or.inl rfl | exact Or.inr rfl) pe_dnewK)
      (pss_cons (ps_set (i := 2) scLawNeeded.nd rfl (by first | exact Or.inl rfl | exact Or.inr rfl) (pe_callTy (k_listof K) (by rfl) T.b_list b_list (pa_cons (pe_ix (k_ix_tup K) (pv 0) pe_int (fun _ _ => rfl)) pa_nil)))
      (pss_cons (ps_for PassesOwn.never rfl (pi_range1 rfl T.b_range (pa_cons pe_int pa_nil)) (pg_name (i := 3) scLawNeeded.nd rfl (by first | exact Or.inl rfl | exact Or.inr rfl))
      (pss_one (ps_if (pt_cmpR (k_neD K hr.units) (pv 2) (pe_lst pa_nil) (nomark _)) (pss_cons (ps_set (i := 4) scLawNeeded.nd rfl (by first | exact Or.inl rfl | exact Or.inr rfl) (k_bm0 K PySem.F.plainAttrs_list PySem.F.slot_list_pop PySem.F.type_list_pop mt_pop (pv 2)))
      (pss_one (ps_if (pt_cmp (pc_dnotin (hu_of hr) (pv 4) (pv 1))) (pss_cons (ps_dput (hu_of hr) (pv 1) (pv 4) pe_bl rfl)
      (pss_one (ps_set (i := 2) scLawNeeded.nd rfl (by first | exact Or.inl rfl | exact Or.inr rfl) (pe_op op_cat (pv 2) (C8.pe_c c_law_used hr (by decide) rfl (pa_cons (pe_ix (k_ix_tup K) (pe_ix (k_ix_tup K) (pv 0) pe_int (fun _ _ => rfl)) (pv 4) (fun _ _ => rfl)) pa_nil)))))) pss_nil))) pss_nil)))
      (pss_one (ps_ret (pe_callB (k_sorted K) (by rfl) T.b_sorted b_sorted (pa_cons (pe_callTy (call_list_dK rfl) (by rfl) T.b_list b_list (pa_cons (pv 1) pa_nil)) pa_nil))))))), ?_⟩
  refine go_start wf mu ha ?_
  refine go_seq (go_own en_dK fun pd hpd => ?_)
  dsimp only
  refine go_seq (go_own (m := .lst (natsD r.ends)) (EvL.n (el_listOf (Ev.sqT (ev_ixTn 2 (ev_var (by rfl)) ev_int (by rfl))))) fun pw hpw => ?_)
  refine go_weak (Ms2 := [(pw, .lst (natsD r.ends)), (pd, .dK (trueD []))]) (.cons₂ _ (.cons₂ _ (List.nil_sublist _))) ?_
  refine go_seq (go_for (ei_r1 ev_int (by decide)) (fun i Ms2 As2 => ∃ (p : Addr) (f w : List Nat), H p = none ∧ Stk r f w ∧ (w = [] ∨ i + w.length ≤ r.ends.length + 2 * f.length) ∧ Ms2 = [(p, .lst (natsD w)), (pd, .dK (trueD f))] ∧ ∃ X3 X4, As2 = [some (dp (encR r)), some (valA (.ref pd)), some (valA (.ref p)), X3, X4]) ⟨pw, [], r.ends, hpw, Stk.start r, .inr (by simp), rfl, _, _, rfl⟩ ?_ ?_)
  · rintro Rb hb i d _ _ hd ⟨p, f, w, hp, st, hc, rfl, X3, X4, rfl⟩
    have hsh : ∀ l : List Nat, SeqAt.shaped (.list (natsD l)) = true := fun l => by rw [natsD_nI]; exact shaped_lst _
    dsimp only
    refine go_if (et_B (ev_neDo (Ms' := [(p, Mc.lst (natsD w))]) (Ev.own (ev_var (by rfl)) (by simp)) el_lst0.ev (hsh w) (shaped_lst []) (by intro x hx; rw [List.mem_singleton.mp hx]; simp))) (fun hb => ?_) (fun hb => go_next (go_inv ⟨p, f, w, hp, st, .inl ?_, rfl, _, _, rfl⟩))
    · rw [eqv_nil] at hb
      rcases List.eq_nil_or_concat w with rfl | ⟨w', x, rfl⟩
      · cases hb
      rw [List.concat_eq_append] at st hc ⊢
      have hx : x < r.steps.length := st.lt ok (.inr (by simp))
      have ew : natsD (w' ++ [x]) = natsD w' ++ [.int (x : Int)] := List.map_append
      rw [ew]
      refine go_seq (go_asgM (em_pop (ds := natsD w') (d := .int (x : Int)) 0 (ev_var (by rfl)) (by rfl) hp) fun _ _ => ?_)
      dsimp only
      refine go_if (et_B (ev_dnotK (kvs := trueD f) (Ms' := [(pd, Mc.dK (trueD f))]) (ev_var (by rfl)) (Ev.dko (ev_var (by rfl)) (by simp)) (by intro x hx; rw [List.mem_singleton.mp hx]; simp))) (fun hb2 => ?_) (fun hb2 => go_next (go_inv ⟨p, f, w', hp, ?_, ?_, rfl, _, _, rfl⟩))
      · rw [trueD_get] at hb2
        have hxf : x ∉ f := by simpa using hb2
        have hfl := st.len ok
        refine go_seq (go_dputK 1 ev_bl (ev_var (by rfl)) (ev_var (by rfl)) (by rfl) hpd (by show (f.map _).length < 100000; rw [List.length_map]; omega) ?_)
        have es : setK (trueD f) (x : Int) (.bool true) = trueD (f ++ [x]) := setK_map_new (f := fun _ => PyData.bool true) hxf
        rw [es]
        have hul : (setN (r.uses x)).length ≤ 2 := kids_len r x
        have hwl : w'.length ≤ 100000 - 2 := by
          rcases hc with hc | hc
          · simp at hc
          · rw [List.length_append, List.length_singleton] at hc; omega
        dsimp only
        refine go_own (m := .lst (natsD (w' ++ setN (r.uses x)))) (EvL.n ((el_cat (ds := natsD w') (es := natsD (setN (r.uses x))) (Ms' := [(p, Mc.lst (natsD w'))]) (Ev.own (ev_var (by rfl)) (by simp)) (Ev.ls (ev_call (r := dp (.list (natsD (setN (r.uses x))))) (ea_cons (ev_step (by rfl) (ev_var (by rfl)) hx) ea_nil) (fun vs H Q h => ⟨_, _, h⟩))) (by rw [natsD_len, natsD_len]; omega) (by intro x hx; rw [List.mem_singleton.mp hx]; simp)).to (List.map_append).symm)) fun p' hp' => ?_
        refine go_weak (Ms2 := [(p', .lst (natsD (w' ++ setN (r.uses x)))), (pd, .dK (trueD (f ++ [x])))]) (.cons₂ _ (.cons _ (.refl _))) (go_inv ⟨p', f ++ [x], w' ++ setN (r.uses x), hp', st.take hxf, .inr ?_, rfl, _, _, rfl⟩)
        rcases hc with hc | hc
        · simp at hc
        · simp only [List.length_append, List.length_singleton] at hc ⊢; omega
      · rw [trueD_get] at hb2
        exact st.skip (by simpa using hb2)
      · rcases hc with hc | hc
        · simp at hc
        · rw [List.length_append, List.length_singleton] at hc; exact .inr (by omega)
    · rw [eqv_nil] at hb
      cases w with
      | nil => rfl
      | cons y w => cases hb
  · rintro _ _ ⟨p, f, w, hp, st, hc, rfl, X3, X4, rfl⟩
    have hfl := st.len ok
    have hw : w = [] := by
      rcases hc with hc | hc
      · exact hc
      · rw [rgD_len] at hc
        have : ((2000 : Int).toNat) = 2000 := rfl
        omega
    subst hw
    have pm := st.end_ ok
    have ek : (trueD f).map Prod.fst = nI f := by
      show (f.map _).map _ = f.map _
      rw [List.map_map]
      rfl
    have hnl : (needed r).length ≤ 60 := Nat.le_trans (needed_len r) hs
    refine go_ret (by exact q) ((EvL.ev (el_sorted (ns := nI f) (ms := nI (needed r)) (Ev.ls (EvL.ev ((el_listDK (kvs := trueD f) (Ev.dko (Ms' := [(pd, Mc.dK (trueD f))]) (ev_var (by rfl)) (by simp)) (by intro x hx; rw [List.mem_singleton.mp hx]; simp)).to (by rw [ek])))) (by rw [nI_len]; omega) (pm.map _) ((nI_rising (needed_rising r)).imp fun h => by omega))).to (by rw [← natsD_nI]))
end
end Rb
end
section
set_option Elab.async false
set_option linter.all false
set_option autoImplicit false
set_option maxRecDepth 100000
set_option maxHeartbeats 4000000
set_option exponentiation.threshold 500000
namespace Rb
open PySem PySem.Spec PyProof.Rows L2
/-! ### a drawn order -/
def leftOf (r : Row) (f : List Nat) : List Nat := (needed r).filter fun x => !decide (x ∈ f)
def readyOf (r : Row) (f : List Nat) : List Nat := (leftOf r f).filter fun x => ((setN (r.uses x)).filter fun u => !decide (u ∈ f)).isEmpty
structure PreO (r : Row) (f : List Nat) : Prop where
  nodup : f.Nodup
  nd : ∀ x ∈ f, x ∈ needed r
  uses : ∀ (t x : Nat), f[t]? = some x → ∀ u ∈ r.uses x, u ∈ f.take t
theorem PreO.nil (r : Row) : PreO r [] := ⟨List.nodup_nil, fun x hx => (by cases hx), fun t x e => by simp at e⟩
theorem mem_left {r : Row} {f : List Nat} {x : Nat} : x ∈ leftOf r f ↔ x ∈ needed r ∧ x ∉ f := by
  unfold leftOf; rw [List.mem_filter]; simp
theorem mem_ready {r : Row} {f : List Nat} {x : Nat} : x ∈ readyOf r f ↔ x ∈ leftOf r f ∧ ∀ u ∈ r.uses x, u ∈ f := by
  unfold readyOf
  rw [List.mem_filter, List.isEmpty_iff, List.filter_eq_nil_iff]
  refine and_congr Iff.rfl ⟨fun h u hu => ?_, fun h u hu => ?_⟩
  · have := h u (mem_setN.mpr hu); simpa using this
  · have := h u (mem_setN.mp hu); simpa using this
theorem PreO.snoc {r : Row} {f : List Nat} {x : Nat} (h : PreO r f) (hx : x ∈ readyOf r f) : PreO r (f ++ [x]) := by
  obtain ⟨h1, h2⟩ := mem_ready.mp hx
  obtain ⟨h3, h4⟩ := mem_left.mp h1
  refine ⟨?_, fun y hy => ?_, fun t y e u hu => ?_⟩
  · rw [List.nodup_append]
    refine ⟨h.nodup, by simp, fun a ha b hb e => ?_⟩
    rw [List.mem_singleton.mp hb] at e
    subst e
    exact h4 ha
  · rcases List.mem_append.mp hy with hy | hy
    · exact h.nd y hy
    · rw [List.mem_singleton.mp hy]; exact h3
  · by_cases ht : t < f.length
    · rw [List.getElem?_append_left ht] at e
      rw [List.take_append_of_le_length (by omega)]
      exact h.uses t y e u hu
    · rw [List.getElem?_append_right (by omega)] at e
      obtain ⟨z, hz⟩ : ∃ z, t - f.length = z := ⟨_, rfl⟩
      rw [hz] at e
      cases z with
      | succ z => simp at e
      | zero =>
        cases e
        rw [List.take_append_of_le_length (by omega), List.take_of_length_le (by omega)]
        exact h2 u hu
theorem left_snoc {r : Row} {f : List Nat} {x : Nat} : leftOf r (f ++ [x]) = (leftOf r f).filter fun y => !decide (y = x) := by
  unfold leftOf
  rw [List.filter_filter]
  refine List.filter_congr fun y _ => ?_
  by_cases h1 : y ∈ f <;> by_cases h2 : y = x <;> simp [h1, h2]
theorem left_rising (r : Row) (f : List Nat) : (leftOf r f).Pairwise (· < ·) := List.Pairwise.filter _ (needed_rising r)
theorem ready_ne {r : Row} (ok : r.Ok) {f : List Nat} (h : leftOf r f ≠ []) : readyOf r f ≠ [] := by
  cases e : leftOf r f with
  | nil => exact absurd e h
  | cons x l =>
    have hx : x ∈ leftOf r f := by rw [e]; simp
    have hm := left_rising r f
    rw [e, List.pairwise_cons] at hm
    have : x ∈ readyOf r f := mem_ready.mpr ⟨hx, fun u hu => by
      refine Classical.byContradiction fun hn => ?_
      have h1 : u ∈ leftOf r f := mem_left.mpr ⟨nd_use ok (mem_left.mp hx).1 hu, hn⟩
      rw [e] at h1
      have h2 := ok.use hu
      rcases List.mem_cons.mp h1 with h1 | h1
      · omega
      · have := hm.1 u h1; omega⟩
    intro z
    rw [z] at this
    cases this
theorem PreO.end_ {r : Row} {f : List Nat} (h : PreO r f) (hl : leftOf r f = []) : IsOrd r f where
  perm := (List.perm_ext_iff_of_nodup h.nodup (needed_nodup r)).mpr fun x => ⟨h.nd x, fun hx => Classical.byContradiction fun hn => by
    have := mem_left.mpr ⟨hx, hn⟩
    rw [hl] at this
    cases this⟩
  uses := h.uses
theorem PreO.len {r : Row} {f : List Nat} (h : PreO r f) : f.length ≤ (needed r).length := nodup_sub_len h.nodup h.nd
section
variable {P : Program} {w : World} {K : PySem.W.Frag} {mg : Str → Option Value} {base : Heap}
abbrev sLawOrder : Stmt := topS 68
abbrev nLawOrder : List Str := ["_law_deck_here", "_law_row_here", "_law_left", "_law_found", "_law_some", "_law_one_here", "_law_own"]
theorem scLawOrder : FnScope nLawOrder ["_law_deck_here", "_law_row_here"] (defScope sLawOrder) := ⟨rfl, rfl, rfl, by decide +kernel, rfl, by decide +kernel, by decide +kernel⟩
def ordA (r : Row) : Asr := exA (IsOrd r) fun o => dp (.tuple (natsD o))
def spLawOrder : Sp := fun vs H Q _ => ∃ (a b d : Addr) (Ms : MS) (r : Row), r.Ok ∧ r.steps.length ≤ 60 ∧ r.ends.length ≤ 60 ∧ Dr a b d Ms [valA (.ref a), dp (encR r)] (ordA r) vs H Q
theorem cal_law_order (T : Txt K mg) (c_law_needed : C8.Cal P w K mg base 2 "_law_needed" spLawNeeded []) (c_law_used : C8.Cal P w K mg base 1 "_law_used" spUsed []) (c_law_one : C8.Cal P w K mg base 2 "_law_one" spOne []) : C8.Cal P w K mg base 3 "_law_order" spLawOrder [] := by
  refine mk_cal (x := "_law_order") (i := 68) (j := 52) T rfl scLawOrder (fun _ _ _ _ _ _ us hl => match us, hl with | [_, _], _ => rfl) (fun vs H Q E h => ?_) (fun f cdv A outer s H vs Q E hr h => ?_)
  · obtain ⟨a, b, d, Ms, r, _, _, _, R, _, _, h, _⟩ := h
    exact (paired_len h).trans rfl
  obtain ⟨a, b, d, Ms, r, ok, hs, he, R, wf, mu, ha, q⟩ := h
  refine ⟨_, (pss_cons (ps_asg (pe_tup (pa_cons (C8.pe_c c_law_needed hr (by decide) rfl (pa_cons (pv 1) pa_nil)) (pa_cons (pe_lst pa_nil) pa_nil))) (k_pg_tup K (n := 2) rfl (pgs_cons (pg_name (i := 2) scLawOrder.nd rfl (by first | exact Or.inl rfl | exact Or.inr rfl)) (pgs_cons (pg_name (i := 3) scLawOrder.nd rfl (by first | exact Or.inl rfl | exact Or.inr rfl)) pgs_nil))))
      (pss_cons (ps_while PassesOwn.never (pt_cmpR (k_neD K hr.units) (pv 2) (pe_lst pa_nil) (nomark _))
      (pss_cons (ps_setLc (i := 4) (own := [("_law_one_here", 5)]) rfl scLawOrder.nd rfl rfl (sw_true rfl rfl rfl (by decide +kernel)) (k_pi_list K (pv 2)) (blkOk_by (own := [("_law_one_here", 5)]) (N := nLawOrder) (sc := defScope sLawOrder) (by decide +kernel)) (fun _ _ _ _ _ => (pg_name (i := 5) scLawOrder.nd rfl (by first | exact Or.inl rfl | exact Or.inr rfl))) (fun _ _ _ _ _ => (pts_one (pt_cmpR (k_eqD K hr.units) (pe_lc (own := [("_law_own", 6)]) rfl scLawOrder.nd (k_pi_list K (C8.pe_c c_law_used hr (by decide) rfl (pa_cons (pe_ix (k_ix_tup K) (pe_ix (k_ix_tup K) (pv 1) pe_int (fun _ _ => rfl)) (pv 5) (fun _ _ => rfl)) pa_nil))) (blkOk_by (own := [("_law_own", 6)]) (by rfl)) (fun _ _ _ _ _ => (pg_name (i := 6) scLawOrder.nd rfl (by first | exact Or.inl rfl | exact Or.inr rfl))) (fun _ _ _ _ _ => (pts_one (pt_cmpR (k_notin K) (pv 6) (pv 3) (by rfl)))) (fun _ _ _ _ _ => (pv 6))) (pe_lst pa_nil) (nomark _)))) (fun _ _ _ _ _ => (pv 5)))
      (pss_cons (ps_expr (k_bm K PySem.F.plainAttrs_list PySem.F.slot_list_append PySem.F.type_list_append mt_append (pv 3) (pa_cons (C8.pe_c c_law_one hr (by decide) rfl (pa_cons (pv 0) (pa_cons (pv 4) pa_nil))) pa_nil)))
      (pss_one (ps_setLc (i := 2) (own := [("_law_one_here", 5)]) rfl scLawOrder.nd rfl rfl (sw_true rfl rfl rfl (by decide +kernel)) (k_pi_list K (pv 2)) (blkOk_by (own := [("_law_one_here", 5)]) (N := nLawOrder) (sc := defScope sLawOrder) (by decide +kernel)) (fun _ _ _ _ _ => (pg_name (i := 5) scLawOrder.nd rfl (by first | exact Or.inl rfl | exact Or.inr rfl))) (fun _ _ _ _ _ => (pts_one (pt_cmpR op_ne (pv 5) (pe_ix (k_ix_list K) (pv 3) (pe_un un_neg pe_int) (fun _ _ => rfl)) (nomark _)))) (fun _ _ _ _ _ => (pv 5)))))))
      (pss_one (ps_ret (pe_callTy (k_tupof K) (by rfl) T.b_tuple b_tuple (pa_cons (pv 3) pa_nil)))))), ?_⟩
  refine go_startK wf mu ha ?_
  have hsh : ∀ l : List Nat, SeqAt.shaped (.list (natsD l)) = true := fun l => by rw [natsD_nI]; exact shaped_lst _
  have hnl : (needed r).length ≤ 60 := Nat.le_trans (needed_len r) hs
  refine go_seq (go_tupAN (A := dp (.list (natsD (needed r)))) (ev_call (ea_cons (ev_var (by rfl)) ea_nil) (fun vs H Q h => ⟨_, r, ok, hs, he, h⟩)) (EvL.n el_lst0) fun pf hpf => ?_)
  have el0 : leftOf r [] = needed r := by unfold leftOf; simp
  refine go_seq (go_while (fun (f : List Nat) Ms2 As2 => PreO r f ∧ Ms2 = (pf, .lst (natsD f)) :: Ms ∧ ∃ X4 X5 X6, As2 = [some (valA (.ref a)), some (dp (encR r)), some (dp (.list (natsD (leftOf r f)))), some (valA (.ref pf)), X4, X5, X6]) (fun f => (needed r).length - f.length) [] ⟨PreO.nil r, rfl, _, _, _, by rw [el0] <;> rfl⟩ ?_)
  rintro f _ _ ⟨pre, rfl, X4, X5, X6, rfl⟩
  have hll : (leftOf r f).length ≤ 60 := Nat.le_trans (List.length_filter_le _ _) hnl
  have hfl := pre.len
  refine ⟨_, et_B (ev_neD (ev_var (A := dp (.list (natsD (leftOf r f)))) (by rfl)) el_lst0.ev (hsh _) (shaped_lst [])), fun hb => ?_, fun hb => ?_⟩
  · rw [eqv_nil] at hb
    have hne : leftOf r f ≠ [] := fun e => by rw [e] at hb; cases hb
    have hrn := ready_ne ok hne
    dsimp only
    have hlt : ∀ x ∈ leftOf r f, x < r.steps.length := fun x hx => nd_lt (mem_left.mp hx).1
    refine go_seq (go_asg (A := dp (.list (natsD (readyOf r f)))) (EvL.ev (el_lc (leftOf r f) (fun n : Nat => .int (n : Int)) (fun x => ((setN (r.uses x)).filter fun u => !decide (u ∈ f)).isEmpty) (fun n : Nat => .int (n : Int)) (ei_list (ev_var (by rfl))) (fun _ _ => tg_name) (fun x hx => ?_) (fun x hx _ => ev_var (by rfl)) (by omega) (by decide))) ?_)
    · have hk2 : (setN (r.uses x)).length ≤ 100000 := Nat.le_trans (kids_len r x) (by decide)
      refine et_B ((ev_eqD (d := .list (natsD ((setN (r.uses x)).filter fun u => !decide (u ∈ f)))) (EvL.ev (el_lc (setN (r.uses x)) (fun n : Nat => .int (n : Int)) (fun u => !decide (u ∈ f)) (fun n : Nat => .int (n : Int)) (ei_list (ev_call (r := dp (.list (natsD (setN (r.uses x))))) (ea_cons (ev_step (by rfl) (ev_var (by rfl)) (hlt x hx)) ea_nil) (fun vs H Q h => ⟨_, _, h⟩))) (fun _ _ => tg_name) (fun u hu => et_B (ev_niN (Ms' := [(pf, Mc.lst (natsD f))]) (ev_var (by rfl)) (Ev.sqO (ev_var (by rfl)) (by simp)) (by intro x hx; rw [List.mem_singleton.mp hx]; simp))) (fun u hu _ => ev_var (by rfl)) hk2 (by decide))) el_lst0.ev (hsh _) (shaped_lst [])).to ?_)
      rw [eqv_nil]
      unfold natsD
      rw [List.isEmpty_map]
    dsimp only
    refine go_seq (go_appM (P := fun x : Nat => x ∈ readyOf r f) (N := fun _ => (pf, .lst (natsD f)) :: Ms) (f := fun x : Nat => .int (x : Int)) (ds := fun _ => natsD f) (ds0 := natsD f) 0 (ev_var (by rfl)) (Ev.m (Ev.exle (ev_one (ev_var (by rfl)) (Ev.ls (ev_var (A := dp (.list (natsD (readyOf r f)))) (by rfl))) (by unfold natsD; simpa using hrn) (by rw [natsD_len]; have := List.length_filter_le (fun x => ((setN (r.uses x)).filter fun u => !decide (u ∈ f)).isEmpty) (leftOf r f); unfold readyOf; omega)) fun e he => by
      obtain ⟨x, hx, rfl⟩ := List.mem_map.mp he
      exact ⟨x, hx, fun _ _ a => a⟩)) ⟨0, by rfl⟩ (fun _ _ => by rfl) hpf (fun _ _ => by rw [natsD_len]; omega) fun x hx => ?_)
    have pre' := pre.snoc hx
    have hl2 := pre'.len
    have ef : natsD f ++ [.int (x : Int)] = natsD (f ++ [x]) := by
      show _ = (f ++ [x]).map _
      rw [List.map_append]
      rfl
    dsimp only
    rw [ef]
    refine go_asg (A := dp (.list (natsD (leftOf r (f ++ [x]))))) ((EvL.ev (el_lc (leftOf r f) (fun n : Nat => .int (n : Int)) (fun y : Nat => !decide (y = x)) (fun n : Nat => .int (n : Int)) (ei_list (ev_var (by rfl))) (fun _ _ => tg_name) (fun y hy => et_B ((ev_nei (ev_var (A := dp (.int (y : Int))) (by rfl)) (ev_ixL (d := .int (x : Int)) (ds := natsD (f ++ [x])) (Ms' := [(pf, Mc.lst (natsD (f ++ [x])))]) (Ev.own (ev_var (by rfl)) (by simp)) (ev_neg ev_int) (by rw [← ef]; exact L2.atI_last _ _) (by intro x hx; rw [List.mem_singleton.mp hx]; simp))).to ?_)) (fun y hy _ => ev_var (by rfl)) (by omega) (by decide))).to (by rw [left_snoc] <;> rfl)) (go_inv ⟨f ++ [x], ?_, pre', rfl, _, _, _, rfl⟩)
    · congr 2
      by_cases e : y = x
      · subst e; simp
      · have : ¬ (y : Int) = (x : Int) := by omega
        simp [e, this]
    · rw [List.length_append, List.length_singleton] at hl2 ⊢
      omega
  · rw [eqv_nil] at hb
    have hn : leftOf r f = [] := by
      cases e : leftOf r f with
      | nil => rfl
      | cons y l => rw [e] at hb; cases hb
    exact go_ret (by exact q) (Ev.le (B := ordA r) (ev_tupleOf (ds := natsD f) (Ms' := [(pf, Mc.lst (natsD f))]) (Ev.own (ev_var (by rfl)) (by simp)) (by intro x hx; rw [List.mem_singleton.mp hx]; simp)) fun R v aa => ⟨f, pre.end_ hn, aa⟩)
end
end Rb
end
section
set_option Elab.async false
set_option linter.all false
set_option autoImplicit false
set_option maxRecDepth 100000
set_option maxHeartbeats 4000000
set_option exponentiation.threshold 500000
namespace Rb
open PySem PySem.Spec PyProof.Rows L2
/-! ### drawn woods -/
def fibB : Nat → Int
  | 0 => 1
  | 1 => 1
  | k + 2 => fibB k + fibB (k + 1)
theorem fibB_pos : ∀ k, 1 ≤ fibB k
  | 0 => by decide
  | 1 => by decide
  | k + 2 => by have := fibB_pos k; have := fibB_pos (k + 1); show 1 ≤ fibB k + fibB (k + 1); omega
theorem fibB_up (k : Nat) : fibB k ≤ fibB (k + 1) := by
  cases k with
  | zero => decide
  | succ k => have := fibB_pos k; show fibB (k + 1) ≤ fibB k + fibB (k + 1); omega
theorem fibB_mono {a b : Nat} (h : a ≤ b) : fibB a ≤ fibB b := by
  induction h with
  | refl => exact Int.le_refl _
  | step _ ih => exact Int.le_trans ih (fibB_up _)
structure Wok (n : Nat) (s : Stp) : Prop where
  sok : Sok n 1 s
  two : ∀ a b, s = .mul a b → a ≠ b
def Wst (st : List Stp) : Prop := ∀ i s, st[i]? = some s → Wok i s
theorem Wst.nil : Wst [] := fun i s h => by simp at h
theorem Wst.snoc {st : List Stp} {s : Stp} (h : Wst st) (hs : Wok st.length s) : Wst (st ++ [s]) := fun i s' e => by
  by_cases hi : i < st.length
  · rw [List.getElem?_append_left hi] at e; exact h i s' e
  · rw [List.getElem?_append_right (by omega)] at e
    obtain ⟨z, hz⟩ : ∃ z, i - st.length = z := ⟨_, rfl⟩
    rw [hz] at e
    cases z with
    | zero =>
      have : i = st.length := by omega
      subst this
      cases e
      exact hs
    | succ z => simp at e
theorem wsize {n : Nat} {s : Stp} (hs : Wok n s) {f : List Int} (hf : ∀ j, j < n → f.getD j 0 ≤ fibB j) : s.measure f 1 ≤ fibB n := by
  have hm : ∀ j, j < n → f.getD j 0 ≤ fibB n := fun j hj => Int.le_trans (hf j hj) (fibB_mono (by omega))
  cases s with
  | inn k => exact fibB_pos n
  | st k => exact fibB_pos n
  | neg i => exact hm i (hs.sok.us i (by simp [Stp.uses]))
  | add i j => exact Int.max_le.mpr ⟨hm i (hs.sok.us i (by simp [Stp.uses])), hm j (hs.sok.us j (by simp [Stp.uses]))⟩
  | sub i j => exact Int.max_le.mpr ⟨hm i (hs.sok.us i (by simp [Stp.uses])), hm j (hs.sok.us j (by simp [Stp.uses]))⟩
  | mul i j =>
    have hne := hs.two i j rfl
    have hi := hs.sok.us i (by simp [Stp.uses])
    have hj := hs.sok.us j (by simp [Stp.uses])
    obtain ⟨m, rfl⟩ : ∃ m, n = m + 2 := ⟨n - 2, by omega⟩
    show f.getD i 0 + f.getD j 0 ≤ fibB m + fibB (m + 1)
    have a := hf i hi
    have b := hf j hj
    by_cases h : i < j
    · have := fibB_mono (show i ≤ m by omega)
      have := fibB_mono (show j ≤ m + 1 by omega)
      omega
    · have := fibB_mono (show j ≤ m by omega)
      have := fibB_mono (show i ≤ m + 1 by omega)
      omega
theorem Wst.sizes : ∀ (n : Nat) (st : List Stp), st.length = n → Wst st → ∀ j, j < n → (sizesOf st).getD j 0 ≤ fibB j := by
  intro n
  induction n with
  | zero => intro st _ _ j hj; omega
  | succ n ih =>
    intro st hl h j hj
    rcases List.eq_nil_or_concat st with rfl | ⟨xs, s, rfl⟩
    · simp at hl
    rw [List.concat_eq_append] at hl h ⊢
    have hx : xs.length = n := by simpa using hl
    have hxs : Wst xs := fun i s' e => h i s' (by rw [List.getElem?_append_left (List.getElem?_eq_some_iff.mp e).1]; exact e)
    have hs : Wok n s := h n s (by rw [← hx, List.getElem?_append_right (Nat.le_refl _), Nat.sub_self]; rfl)
    have hf := ih xs hx hxs
    rw [sizesOf_snoc, List.getD_eq_getElem?_getD]
    by_cases hj2 : j < n
    · rw [List.getElem?_append_left (by rw [sizesOf_len]; omega), ← List.getD_eq_getElem?_getD]
      exact hf j hj2
    · have : j = n := by omega
      subst this
      rw [List.getElem?_append_right (by rw [sizesOf_len]; omega), sizesOf_len, hx, Nat.sub_self]
      exact wsize hs hf
theorem Wst.dra {st : List Stp} (h : Wst st) (hl : st.length ≤ 8) : Dra st 1 where
  sok := fun i s e => (h i s e).sok
  siz := fun k hk => by
    obtain ⟨j, hj, e⟩ := List.getElem_of_mem hk
    have h1 := h.sizes st.length st rfl j (by rw [sizesOf_len] at hj; exact hj)
    rw [List.getD_eq_getElem?_getD, List.getElem?_eq_getElem hj, Option.getD_some, e] at h1
    have h2 := fibB_mono (show j ≤ 7 by rw [sizesOf_len] at hj; omega)
    have h3 : fibB 7 = 21 := by decide
    omega
theorem erase_permN : ∀ {l : List Nat} {j : Nat}, j < l.length → (l.getD j 0 :: l.eraseIdx j).Perm l
  | [], _, h => by cases h
  | x :: l, 0, _ => by simp
  | x :: l, j + 1, h => by
    have ih := erase_permN (l := l) (j := j) (by simpa using h)
    rw [List.eraseIdx_cons_succ, List.getD_cons_succ]
    exact (List.Perm.swap _ _ _).trans (ih.cons x)
structure Fre' (n : Nat) (f : List Nat) : Prop where
  nodup : f.Nodup
  lt : ∀ x ∈ f, x < n
theorem Fre'.pop {n : Nat} {f : List Nat} (h : Fre' n f) {j : Nat} (hj : j < f.length) : Fre' n (f.eraseIdx j) ∧ f.getD j 0 < n ∧ f.getD j 0 ∉ f.eraseIdx j := by
  have p := erase_permN hj
  have nd := p.nodup_iff.mpr h.nodup
  rw [List.nodup_cons] at nd
  exact ⟨⟨nd.2, fun x hx => h.lt x (p.mem_iff.mp (List.mem_cons_of_mem _ hx))⟩, h.lt _ (p.mem_iff.mp List.mem_cons_self), nd.1⟩
theorem Fre'.push {n : Nat} {f : List Nat} (h : Fre' n f) : Fre' (n + 1) (f ++ [n]) where
  nodup := by
    rw [List.nodup_append]
    refine ⟨h.nodup, by simp, fun a ha b hb e => ?_⟩
    rw [List.mem_singleton.mp hb] at e
    subst e
    exact Nat.lt_irrefl _ (h.lt _ ha)
  lt := fun x hx => by
    rcases List.mem_append.mp hx with hx | hx
    · exact Nat.lt_succ_of_lt (h.lt x hx)
    · rw [List.mem_singleton.mp hx]; exact Nat.lt_succ_self _
theorem nats_getD {l : List Nat} {j : Nat} (h : j < l.length) : (natsD l).getD j .none = .int (l.getD j 0 : Int) := by
  unfold natsD
  rw [List.getD_eq_getElem?_getD, List.getElem?_map, List.getElem?_eq_getElem h, List.getD_eq_getElem?_getD, List.getElem?_eq_getElem h]
  rfl
theorem nats_erase (l : List Nat) (j : Nat) : (natsD l).eraseIdx j = natsD (l.eraseIdx j) := erase_map _ _ _
theorem nats_snoc (l : List Nat) (x : Nat) : natsD l ++ [.int (x : Int)] = natsD (l ++ [x]) := by
  show _ = (l ++ [x]).map _
  rw [List.map_append]
  rfl
theorem EvM.conv {c : Kx} {H0 : Hp} {Ms : MS} {As : AS} {te : TE} {ι : Type} {P P' : ι → Prop} {N N' : ι → MS} {F F' : ι → Asr} (h : EvM c H0 Ms As te P N F) (k : ∀ i, P i → P' i ∧ N i = N' i ∧ F i = F' i) : EvM c H0 Ms As te P' N' F' := fun σ H R R0 g s Q q =>
  h σ H R R0 g s Q fun i v H' R' hi g' r s' a => by
    obtain ⟨h1, h2, h3⟩ := k i hi
    exact q i v H' R' h1 g' r (h2 ▸ s') (h3 ▸ a)
section
variable {P : Program} {w : World} {K : PySem.W.Frag} {mg : Str → Option Value} {base : Heap}
abbrev sLawWood : Stmt := topS 69
abbrev nLawWood : List Str := ["_law_deck_here", "_law_many", "_law_turn", "_law_steps", "_law_free", "_law_word", "_law_one_here", "_law_other"]
theorem scLawWood : FnScope nLawWood ["_law_deck_here", "_law_many"] (defScope sLawWood) := ⟨rfl, rfl, rfl, by decide +kernel, rfl, by decide +kernel, by decide +kernel⟩
def spLawWood : Sp := fun vs H Q _ => ∃ (a b d : Addr) (Ms : MS) (many : Nat), 1 ≤ many ∧ many ≤ 8 ∧ Dr a b d Ms [valA (.ref a), dp (.int (many : Int))] (rowA fun r => Drawn r 1 many) vs H Q
theorem cal_law_wood (T : Txt K mg) (c_law_draw : C8.Cal P w K mg base 1 "_law_draw" spDraw []) (c_law_one : C8.Cal P w K mg base 2 "_law_one" spOne []) (c_law_mixed : C8.Cal P w K mg base 2 "_law_mixed" spMixed []) : C8.Cal P w K mg base 3 "_law_wood" spLawWood [] := by
  refine mk_cal (x := "_law_wood") (i := 69) (j := 53) T rfl scLawWood (fun _ _ _ _ _ _ us hl => match us, hl with | [_, _], _ => rfl) (fun vs H Q E h => ?_) (fun f cdv A outer s H vs Q E hr h => ?_)
  · obtain ⟨a, b, d, Ms, many, _, _, R, _, _, h, _⟩ := h
    exact (paired_len h).trans rfl
  obtain ⟨a, b, d, Ms, many, hm1, hm2, R, wf, mu, ha, q⟩ := h
  refine ⟨_, (pss_cons (ps_par (i := 3) (j := 4) rfl scLawWood.nd rfl rfl (by decide) rfl rfl (pa_cons (pe_lst pa_nil) (pa_cons (pe_lst pa_nil) pa_nil)) (by rfl))
      (pss_cons (ps_for PassesOwn.never rfl (pi_range1 rfl T.b_range (pa_cons (pe_op op_add pe_int (C8.pe_c c_law_draw hr (by decide) rfl (pa_cons (pv 0) (pa_cons (pv 1) pa_nil)))) pa_nil)) (pg_name (i := 2) scLawWood.nd rfl (by first | exact Or.inl rfl | exact Or.inr rfl))
      (pss_cons (ps_set (i := 5) scLawWood.nd rfl (by first | exact Or.inl rfl | exact Or.inr rfl) (C8.pe_c c_law_one hr (by decide) rfl (pa_cons (pv 0) (pa_cons (pe_lst (pa_cons pe_str (pa_cons pe_str (pa_cons pe_str (pa_cons pe_str (pa_cons pe_str (pa_cons pe_str (pa_cons pe_str (pa_cons pe_str (pa_cons pe_str pa_nil)))))))))) pa_nil))))
      (C8.pss_cut (ps_if (PW.pt (pw_or (pt_cmpR (k_in K) (pv 5) (pe_tup (pa_cons pe_str (pa_cons pe_str pa_nil))) (by rfl)) (pw_or1 (pt_cmpR (k_eqD K hr.units) (pv 4) (pe_lst pa_nil) (nomark _))))) (pss_one (ps_expr (k_bm K PySem.F.plainAttrs_list PySem.F.slot_list_append PySem.F.type_list_append mt_append (pv 3) (pa_cons (pe_ifExp (pt_cmpR op_eq (pv 5) pe_str (nomark _)) (pe_tup (pa_cons pe_str (pa_cons pe_int pa_nil))) (pe_tup (pa_cons pe_str (pa_cons (pe_op op_sub (C8.pe_c c_law_draw hr (by decide) rfl (pa_cons (pv 0) (pa_cons pe_int pa_nil))) pe_int) pa_nil)))) pa_nil)))) (pss_one (ps_if (PW.pt (pw_or (pt_cmpR op_eq (pv 5) pe_str (nomark _)) (pw_or1 (pt_cmpR op_eq (pe_callB (k_len K) (by rfl) T.b_len b_len (pa_cons (pv 4) pa_nil)) pe_int (nomark _))))) (pss_cons (ps_set (i := 6) scLawWood.nd rfl (by first | exact Or.inl rfl | exact Or.inr rfl) (k_bm K PySem.F.plainAttrs_list PySem.F.slot_list_pop PySem.F.type_list_pop mt_popAt (pv 4) (pa_cons (C8.pe_c c_law_draw hr (by decide) rfl (pa_cons (pv 0) (pa_cons (pe_callB (k_len K) (by rfl) T.b_len b_len (pa_cons (pv 4) pa_nil)) pa_nil))) pa_nil)))
      (pss_one (ps_expr (k_bm K PySem.F.plainAttrs_list PySem.F.slot_list_append PySem.F.type_list_append mt_append (pv 3) (pa_cons (C8.pe_c c_law_one hr (by decide) rfl (pa_cons (pv 0) (pa_cons (pe_lst (pa_cons (pe_tup (pa_cons pe_str (pa_cons (pv 6) pa_nil))) (pa_cons (pe_tup (pa_cons pe_str (pa_cons (pv 6) (pa_cons (pv 6) pa_nil)))) pa_nil))) pa_nil))) pa_nil))))) (pss_cons (ps_par (i := 6) (j := 7) rfl scLawWood.nd rfl rfl (by decide) rfl rfl (pa_cons (k_bm K PySem.F.plainAttrs_list PySem.F.slot_list_pop PySem.F.type_list_pop mt_popAt (pv 4) (pa_cons (C8.pe_c c_law_draw hr (by decide) rfl (pa_cons (pv 0) (pa_cons (pe_callB (k_len K) (by rfl) T.b_len b_len (pa_cons (pv 4) pa_nil)) pa_nil))) pa_nil)) (pa_cons (k_bm K PySem.F.plainAttrs_list PySem.F.slot_list_pop PySem.F.type_list_pop mt_popAt (pv 4) (pa_cons (C8.pe_c c_law_draw hr (by decide) rfl (pa_cons (pv 0) (pa_cons (pe_callB (k_len K) (by rfl) T.b_len b_len (pa_cons (pv 4) pa_nil)) pa_nil))) pa_nil)) pa_nil)) (by rfl))
      (pss_one (ps_expr (k_bm K PySem.F.plainAttrs_list PySem.F.slot_list_append PySem.F.type_list_append mt_append (pv 3) (pa_cons (pe_tup (pa_cons (C8.pe_c c_law_one hr (by decide) rfl (pa_cons (pv 0) (pa_cons (pe_lst (pa_cons pe_str (pa_cons pe_str (pa_cons pe_str pa_nil)))) pa_nil))) (pa_cons (pv 6) (pa_cons (pv 7) pa_nil)))) pa_nil))))))))
      (pss_one (ps_expr (k_bm K PySem.F.plainAttrs_list PySem.F.slot_list_append PySem.F.type_list_append mt_append (pv 4) (pa_cons (pe_op op_sub (pe_callB (k_len K) (by rfl) T.b_len b_len (pa_cons (pv 3) pa_nil)) pe_int) pa_nil)))))))
      (pss_cons (ps_while PassesOwn.never (pt_cmpR op_gt (pe_callB (k_len K) (by rfl) T.b_len b_len (pa_cons (pv 4) pa_nil)) pe_int (nomark _))
      (pss_cons (ps_par (i := 6) (j := 7) rfl scLawWood.nd rfl rfl (by decide) rfl rfl (pa_cons (k_bm K PySem.F.plainAttrs_list PySem.F.slot_list_pop PySem.F.type_list_pop mt_popAt (pv 4) (pa_cons pe_int pa_nil)) (pa_cons (k_bm K PySem.F.plainAttrs_list PySem.F.slot_list_pop PySem.F.type_list_pop mt_popAt (pv 4) (pa_cons pe_int pa_nil)) pa_nil)) (by rfl))
      (pss_cons (ps_expr (k_bm K PySem.F.plainAttrs_list PySem.F.slot_list_append PySem.F.type_list_append mt_append (pv 3) (pa_cons (pe_tup (pa_cons pe_str (pa_cons (pv 6) (pa_cons (pv 7) pa_nil)))) pa_nil)))
      (pss_one (ps_expr (k_bm K PySem.F.plainAttrs_list PySem.F.slot_list_append PySem.F.type_list_append mt_append (pv 4) (pa_cons (pe_op op_sub (pe_callB (k_len K) (by rfl) T.b_len b_len (pa_cons (pv 3) pa_nil)) pe_int) pa_nil)))))))
      (pss_one (ps_ret (pe_tup (pa_cons pe_int (pa_cons (pe_callTy (k_tupof K) (by rfl) T.b_tuple b_tuple (pa_cons (pv 3) pa_nil)) (pa_cons (pe_callTy (k_tupof K) (by rfl) T.b_tuple b_tuple (pa_cons (C8.pe_c c_law_mixed hr (by decide) rfl (pa_cons (pv 0) (pa_cons (pv 4) pa_nil))) pa_nil)) pa_nil))))))))), ?_⟩
  refine go_startK wf mu ha ?_
  have hsh : ∀ l : List Nat, SeqAt.shaped (.list (natsD l)) = true := fun l => by rw [natsD_nI]; exact shaped_lst _
  refine go_seq (go_parNN (EvL.n el_lst0) (fun p => EvL.n el_lst0) fun ps pf hps hpf => ?_)
  let MM : List Stp → List Nat → MS := fun st fr => (pf, .lst (natsD fr)) :: (ps, .lst (st.map encS)) :: Ms
  have hsubF : ∀ st fr, [(pf, Mc.lst (natsD fr))] ⊆ MM st fr := fun st fr x hx => by rw [List.mem_singleton.mp hx]; exact List.mem_cons_self
  have hsubS : ∀ st fr, [(ps, Mc.lst (st.map encS))] ⊆ MM st fr := fun st fr x hx => by rw [List.mem_singleton.mp hx]; exact List.mem_cons_of_mem _ List.mem_cons_self
  have hlenF : ∀ {st : List Stp} {fr : List Nat} {Bs : AS}, Bs[4]? = some (some (valA (.ref pf))) → Ev (deckK a b d) (MM st fr) Bs (tCB (fun xs H Q => ∃ p ys, xs = [.ref p] ∧ (SqL K H p ys ∨ SqT K H p ys) ∧ Q (.int ys.length) H) (tCons (tVar 4) tNil)) (dp (.int (fr.length : Int))) := fun {st fr Bs} h => (ev_len (ds := natsD fr) (Ms' := [(pf, Mc.lst (natsD fr))]) (Ev.sqO (ev_var h) (by simp)) (hsubF _ _)).to (by rw [natsD_len])
  have hlenS : ∀ {st : List Stp} {fr : List Nat} {Bs : AS}, Bs[3]? = some (some (valA (.ref ps))) → Ev (deckK a b d) (MM st fr) Bs (tCB (fun xs H Q => ∃ p ys, xs = [.ref p] ∧ (SqL K H p ys ∨ SqT K H p ys) ∧ Q (.int ys.length) H) (tCons (tVar 3) tNil)) (dp (.int (st.length : Int))) := fun {st fr Bs} h => (ev_len (ds := st.map encS) (Ms' := [(ps, Mc.lst (st.map encS))]) (Ev.sqO (ev_var h) (by simp)) (hsubS _ _)).to (by rw [List.length_map])
  refine go_seq (go_forX (P := fun n : Int => 1 ≤ n ∧ n ≤ many) (ei_r1X (ev_addX (P1 := fun i => i = 1) (Ev.inA ev_int rfl) (ev_draw (ev_var (by rfl)) (ev_var (by rfl)) (by omega) (by omega)) (fun i j h1 h2 => by subst h1; omega)) (fun n h => by omega))
    (fun n i Ms2 As2 => ∃ st fr, Wst st ∧ st.length = i ∧ Fre' i fr ∧ (0 < i → fr ≠ []) ∧ fr.length ≤ i ∧ Ms2 = MM st fr ∧ ∃ X2 X5 X6 X7, As2 = [some (valA (.ref a)), some (dp (.int (many : Int))), X2, some (valA (.ref ps)), some (valA (.ref pf)), X5, X6, X7])
    (fun n hn => ⟨[], [], Wst.nil, rfl, ⟨List.nodup_nil, fun x hx => (by cases hx)⟩, fun h => (by omega), by simp, rfl, _, _, _, _, rfl⟩) ?_ ?_)
  · rintro n hn Rb hb i dd _ _ hd ⟨st, fr, wst, hst, hfr, hne0, hfl, rfl, X2, X5, X6, X7, rfl⟩
    obtain ⟨hi, rfl⟩ := rgD_get hd
    have hi2 : i < 8 := by omega
    dsimp only
    have lim : ∀ x ∈ [PyData.str "in", .str "set", .str "in", .str "neg", .str "+", .str "-", .str "*", .str "+", .str "-"], ∃ y : Str, True ∧ x = .str y := by
      intro x hx
      simp only [List.mem_cons, List.not_mem_nil, or_false] at hx
      rcases hx with rfl | rfl | rfl | rfl | rfl | rfl | rfl | rfl | rfl <;> exact ⟨_, trivial, rfl⟩
    refine go_seq (go_asgX (P := fun _ : Str => True) (F := fun y => dp (.str y)) (Ev.exle (ev_one (ev_var (by rfl)) (Ev.ls (EvL.ev (el_lst (ds := [.str "in", .str "set", .str "in", .str "neg", .str "+", .str "-", .str "*", .str "+", .str "-"]) (ea_cons ev_str (ea_cons ev_str (ea_cons ev_str (ea_cons ev_str (ea_cons ev_str (ea_cons ev_str (ea_cons ev_str (ea_cons ev_str (ea_cons ev_str ea_nil)))))))))))) (by simp) (by decide)) fun x hx => by
        obtain ⟨y, hy, rfl⟩ := lim x hx
        exact ⟨y, trivial, fun _ _ a => a⟩) fun wd _ => ?_)
    dsimp only
    refine go_cut (fun Ms2 As2 => ∃ s fr', Wok st.length s ∧ Fre' i fr' ∧ fr'.length ≤ i ∧ Ms2 = MM (st ++ [s]) fr' ∧ ∃ X2 X5 X6 X7, As2 = [some (valA (.ref a)), some (dp (.int (many : Int))), X2, some (valA (.ref ps)), some (valA (.ref pf)), X5, X6, X7]) ?_ ?_
    · have eap : ∀ s : Stp, st.map encS ++ [encS s] = (st ++ [s]).map encS := fun s => by rw [List.map_append]; rfl
      refine go_if (et_or (et_B (ev_inS (neg := false) (xs := ["in", "set"]) (ev_var (A := dp (.str wd)) (by rfl)) (ev_tup2 ev_str ev_str))) (fun _ => et_B (ev_eqDo (ds := natsD fr) (Ms' := [(pf, Mc.lst (natsD fr))]) (Ev.own (ev_var (by rfl)) (by simp)) el_lst0.ev (hsh fr) (shaped_lst []) (hsubF _ _)))) (fun hb1 => ?_) (fun hb1 => ?_)
      · refine go_appM (P := fun s : Stp => Wok st.length s) (N := fun _ => MM st fr) (f := fun s => encS s) (ds := fun _ => st.map encS) (ds0 := st.map encS) 1 (ev_var (by rfl)) (Ev.m ?_) ⟨1, by rfl⟩ (fun _ _ => by rfl) hps (fun _ _ => by rw [List.length_map]; omega) (fun s hs => go_inv ⟨s, fr, hs, hfr, hfl, ?_, _, _, _, _, rfl⟩)
        · refine ev_if (et_B (ev_eqs (ev_var (by rfl)) ev_str)) (fun _ => ?_) (fun _ => ?_)
          · exact Ev.le (ev_tup2 (d := .str "in") (e := .int 0) ev_str ev_int) fun R v aa => ⟨.inn 0, ⟨⟨fun u hu => by simp [Stp.uses] at hu, fun k e => (by cases e; decide), fun c e => (by cases e)⟩, fun _ _ e => (by cases e)⟩, aa⟩
          · exact ev_tupX (ea_cons ev_str (ea_cons (ev_subX (P := fun i => i.natAbs ≤ 4) (ev_draw (many := 9) (ev_var (by rfl)) ev_int (by decide) (by decide)) (Ev.inA (P := fun i => i = 4) ev_int rfl) (fun i j h1 h2 => by
              obtain ⟨h3, h4⟩ := h1
              have h4 : i < 9 := h4
              subst h2
              show (i - 4).natAbs ≤ 4
              omega)) ea_nil)) (by simp) fun R vs h => by
              obtain ⟨k, hk, r⟩ := set_tup h
              exact ⟨.st k, _, ⟨⟨fun u hu => by simp [Stp.uses] at hu, fun k e => (by cases e), fun c e => (by cases e; exact hk)⟩, fun _ _ e => (by cases e)⟩, rfl, r⟩
        · show (pf, Mc.lst (natsD fr)) :: (ps, Mc.lst (st.map encS ++ [encS s])) :: Ms = _
          rw [eap]
      · rw [Bool.or_eq_false_iff, eqv_nil] at hb1
        have hfne : fr ≠ [] := fun e => by rw [e] at hb1; exact absurd hb1.2 (by decide)
        have hfp : 0 < fr.length := List.length_pos_iff.mpr hfne
        have hpopk : ∀ {st : List Stp} {fr : List Nat} {Bs : AS} {E : XK}, Bs[0]? = some (some (valA (.ref a))) → Bs[4]? = some (some (valA (.ref pf))) → 0 < fr.length → fr.length ≤ 100 → EvM (deckK a b d) H (MM st fr) Bs (tBM K "list" rPopAt (tVar 4) (tCons (tCall spDraw [] E (tCons (tVar 0) (tCons (tCB (fun xs H Q => ∃ p ys, xs = [.ref p] ∧ (SqL K H p ys ∨ SqT K H p ys) ∧ Q (.int ys.length) H) (tCons (tVar 4) tNil)) tNil))) tNil)) (fun j : Nat => j < fr.length) (fun j => MM st (fr.eraseIdx j)) (fun j => dp (.int (fr.getD j 0 : Int))) := fun {st fr Bs E} h0 h4 hp hl =>
          (em_popAt (ds := natsD fr) (P := fun i => 0 ≤ i ∧ i < (fr.length : Int)) 0 (ev_var h4) (ev_draw (ev_var h0) (hlenF h4) hp (by omega)) (fun i hi => by rw [natsD_len]; exact hi) (by rfl) hpf (by rw [natsD_len]; omega)).conv fun j hj => by
            obtain ⟨hj, _⟩ := hj
            rw [natsD_len] at hj
            refine ⟨hj, ?_, by rw [nats_getD hj]⟩
            show (pf, Mc.lst ((natsD fr).eraseIdx j)) :: (ps, Mc.lst (st.map encS)) :: Ms = _
            rw [nats_erase]
        refine go_if (et_or (et_B (ev_eqs (ev_var (A := dp (.str wd)) (by rfl)) ev_str)) (fun _ => et_B (ev_eqi (hlenF (by rfl)) ev_int))) (fun hb2 => ?_) (fun hb2 => ?_)
        · refine go_seq (go_asgM (hpopk (by rfl) (by rfl) hfp (by omega)) fun j hj => ?_)
          obtain ⟨hf', ho, hno⟩ := hfr.pop hj
          dsimp only
          refine go_appM (P := fun s : Stp => Wok st.length s) (N := fun _ => MM st (fr.eraseIdx j)) (f := fun s => encS s) (ds := fun _ => st.map encS) (ds0 := st.map encS) 1 (ev_var (by rfl)) (Ev.m (Ev.exle (ev_one (ev_var (by rfl)) (Ev.ls (EvL.ev (el_lst2 (d := encS (.neg (fr.getD j 0))) (e := encS (.add (fr.getD j 0) (fr.getD j 0))) (ev_tup2 ev_str (ev_var (by rfl))) (ev_tup3 ev_str (ev_var (by rfl)) (ev_var (by rfl)))))) (by simp) (by simp)) fun e he => ?_)) ⟨1, by rfl⟩ (fun _ _ => by rfl) hps (fun _ _ => by rw [List.length_map]; omega) (fun s hs => go_inv ⟨s, fr.eraseIdx j, hs, hf', by rw [List.length_eraseIdx_of_lt hj]; omega, ?_, _, _, _, _, rfl⟩)
          · simp only [List.mem_cons, List.not_mem_nil, or_false] at he
            rcases he with rfl | rfl
            · exact ⟨.neg (fr.getD j 0), ⟨⟨fun u hu => by simp only [Stp.uses, List.mem_singleton] at hu; omega, fun k e => (by cases e), fun c e => (by cases e)⟩, fun _ _ e => (by cases e)⟩, fun _ _ a => a⟩
            · exact ⟨.add (fr.getD j 0) (fr.getD j 0), ⟨⟨fun u hu => by simp only [Stp.uses, List.mem_cons, List.not_mem_nil, or_false] at hu; omega, fun k e => (by cases e), fun c e => (by cases e)⟩, fun _ _ e => (by cases e)⟩, fun _ _ a => a⟩
          · show (pf, Mc.lst (natsD (fr.eraseIdx j))) :: (ps, Mc.lst (st.map encS ++ [encS s])) :: Ms = _
            rw [eap]
        · rw [Bool.or_eq_false_iff] at hb2
          have h2 : fr.length ≠ 1 := fun e => by have := of_decide_eq_false hb2.2; omega
          refine go_seq (go_parM (hpopk (by rfl) (by rfl) hfp (by omega)) (fun j hj => hpopk (by rfl) (by rfl) (by rw [List.length_eraseIdx_of_lt hj]; omega) (by rw [List.length_eraseIdx_of_lt hj]; omega)) fun j k hj hk => ?_)
          obtain ⟨hf1, ho1, hno1⟩ := hfr.pop hj
          obtain ⟨hf2, ho2, hno2⟩ := hf1.pop hk
          have hne12 : fr.getD j 0 ≠ (fr.eraseIdx j).getD k 0 := fun e => hno1 (by rw [e]; exact (erase_permN hk).mem_iff.mp List.mem_cons_self)
          dsimp only
          refine go_appM (P := fun s : Stp => Wok st.length s) (N := fun _ => MM st ((fr.eraseIdx j).eraseIdx k)) (f := fun s => encS s) (ds := fun _ => st.map encS) (ds0 := st.map encS) 1 (ev_var (by rfl)) (Ev.m (ev_tupX (ea_cons (ev_one (ev_var (by rfl)) (Ev.ls (EvL.ev (el_lst (ds := [.str "+", .str "-", .str "*"]) (ea_cons ev_str (ea_cons ev_str (ea_cons ev_str ea_nil)))))) (by simp) (by simp)) (ea_cons (ev_var (A := dp (.int (fr.getD j 0 : Int))) (by rfl)) (ea_cons (ev_var (A := dp (.int ((fr.eraseIdx j).getD k 0 : Int))) (by rfl)) ea_nil))) (by simp) fun R vs h => ?_)) ⟨1, by rfl⟩ (fun _ _ => by rfl) hps (fun _ _ => by rw [List.length_map]; omega) (fun s hs => go_inv ⟨s, (fr.eraseIdx j).eraseIdx k, hs, hf2, by rw [List.length_eraseIdx_of_lt hk, List.length_eraseIdx_of_lt hj]; omega, ?_, _, _, _, _, rfl⟩)
          · cases h with
            | cons h1 h =>
              cases h with
              | cons h3 h =>
                cases h with
                | cons h5 h6 =>
                  cases h6
                  obtain ⟨e, he, h1⟩ := h1
                  simp only [List.mem_cons, List.not_mem_nil, or_false] at he
                  rcases he with rfl | rfl | rfl
                  · exact ⟨.add (fr.getD j 0) ((fr.eraseIdx j).getD k 0), _, ⟨⟨fun u hu => by simp only [Stp.uses, List.mem_cons, List.not_mem_nil, or_false] at hu; omega, fun k e => (by cases e), fun c e => (by cases e)⟩, fun _ _ e => (by cases e)⟩, rfl, .cons h1 (.cons h3 (.cons h5 .nil))⟩
                  · exact ⟨.sub (fr.getD j 0) ((fr.eraseIdx j).getD k 0), _, ⟨⟨fun u hu => by simp only [Stp.uses, List.mem_cons, List.not_mem_nil, or_false] at hu; omega, fun k e => (by cases e), fun c e => (by cases e)⟩, fun _ _ e => (by cases e)⟩, rfl, .cons h1 (.cons h3 (.cons h5 .nil))⟩
                  · exact ⟨.mul (fr.getD j 0) ((fr.eraseIdx j).getD k 0), _, ⟨⟨fun u hu => by simp only [Stp.uses, List.mem_cons, List.not_mem_nil, or_false] at hu; omega, fun k e => (by cases e), fun c e => (by cases e)⟩, fun _ _ e => (by cases e; exact hne12)⟩, rfl, .cons h1 (.cons h3 (.cons h5 .nil))⟩
          · show (pf, Mc.lst (natsD ((fr.eraseIdx j).eraseIdx k))) :: (ps, Mc.lst (st.map encS ++ [encS s])) :: Ms = _
            rw [eap]
    rintro _ _ ⟨s, fr', hs, hfr', hfl', rfl, X2, X5, X6, X7, rfl⟩
    refine go_app (d := .int (st.length : Int)) 0 (ev_var (by rfl)) ((ev_sub (hlenS (st := st ++ [s]) (fr := fr') (by rfl)) ev_int).to ?_) (by rfl) hpf (by rw [natsD_len]; omega) (go_inv ⟨st ++ [s], fr' ++ [st.length], wst.snoc hs, by simp [hst], by rw [← hst] at hfr' ⊢; exact hfr'.push, fun _ => by simp, by simp; omega, ?_, _, _, _, _, rfl⟩)
    · rw [List.length_append, List.length_singleton]
      congr 1
      omega
    · show (pf, Mc.lst (natsD fr' ++ [.int (st.length : Int)])) :: (ps, Mc.lst ((st ++ [s]).map encS)) :: Ms = _
      rw [nats_snoc]
  · rintro n hn _ _ ⟨st, fr, wst, hst, hfr, hne0, hfl, rfl, X2, X5, X6, X7, rfl⟩
    rw [rgD_len] at hst hfr hne0 hfl
    have hpos : 0 < st.length := by omega
    have hle : st.length ≤ many := by omega
    have hfne := hne0 (by omega)
    dsimp only
    refine go_seq (go_while (fun (_ : Unit) Ms2 As2 => Ms2 = MM st fr ∧ As2 = [some (valA (.ref a)), some (dp (.int (many : Int))), X2, some (valA (.ref ps)), some (valA (.ref pf)), X5, X6, X7]) (fun _ => 0) () ⟨rfl, rfl⟩ ?_)
    rintro _ _ _ ⟨rfl, rfl⟩
    refine ⟨_, et_B (ev_gt (hlenF (by rfl)) ev_int), fun hb => ?_, fun _ => ?_⟩
    · have := of_decide_eq_true hb
      omega
    dsimp only
    refine go_ret (by exact q) (ev_tupX (P := fun r : Row => Drawn r 1 many) (d := fun r => encR r) (ea_cons (ev_int (i := 1)) (ea_cons (ev_tupleOf (ds := st.map encS) (Ms' := [(ps, Mc.lst (st.map encS))]) (Ev.own (ev_var (by rfl)) (by simp)) (hsubS _ _)) (ea_cons (ev_tupleOfX (ev_callD (r := mixA (nI fr)) (ea_cons (ev_var (by rfl)) (ea_cons (Ev.own (ds := natsD fr) (Ms' := [(pf, Mc.lst (natsD fr))]) (ev_var (by rfl)) (by simp)) ea_nil)) (fun vs H Q h => ⟨a, b, d, _, _, nI fr, hsubF st fr, by rw [nI_len]; omega, by rw [← natsD_nI]; exact h⟩))) ea_nil))) (by simp) fun R vs h => ?_)
    cases h with
    | cons h1 h =>
      cases h with
      | cons h3 h =>
        cases h with
        | cons h5 h6 =>
          cases h6
          obtain ⟨ms, hms, h5⟩ := h5
          have hnn : ∀ k ∈ ms, ∃ e ∈ fr, k = ((e : Nat) : Int) := fun k hk => by
            obtain ⟨e, he, rfl⟩ := List.mem_map.mp (hms.mem_iff.mp hk)
            exact ⟨e, he, rfl⟩
          have em : intsD ms = natsD (ms.map Int.toNat) := by
            show ms.map _ = (ms.map _).map _
            rw [List.map_map]
            refine List.map_congr_left fun k hk => ?_
            obtain ⟨e, _, rfl⟩ := hnn k hk
            rfl
          have hml : ms.length = fr.length := by rw [hms.length_eq, nI_len]
          have h5' : Rep R _ (.tuple (intsD ms)) := h5
          rw [em] at h5'
          have hlt : ∀ e ∈ ms.map Int.toNat, e < st.length := fun e he => by
            obtain ⟨k, hk, rfl⟩ := List.mem_map.mp he
            obtain ⟨e', he', rfl⟩ := hnn k hk
            have := hfr.lt e' he'
            rw [Int.toNat_natCast]
            omega
          have dr := wst.dra (by omega)
          refine ⟨⟨1, st, ms.map Int.toNat⟩, _, ⟨Dra.ok (r := ⟨1, st, ms.map Int.toNat⟩) dr hlt ?_ ?_ ?_, dr, rfl, hle, hpos, ?_⟩, rfl, .cons h1 (.cons h3 (.cons h5' .nil))⟩
          · intro e
            have : ms.length = 0 := by
              have := congrArg List.length e
              simpa using this
            rw [hml] at this
            exact hfne (List.length_eq_zero_iff.mp this)
          · show st.length ≤ 1000; omega
          · show (ms.map Int.toNat).length ≤ 1000; rw [List.length_map]; omega
          · show (ms.map Int.toNat).length ≤ 8; rw [List.length_map]; omega
end
end Rb
end
section
set_option Elab.async false
set_option linter.all false
set_option autoImplicit false
set_option maxRecDepth 100000
set_option maxHeartbeats 4000000
namespace Rb
open PySem
/-! ### numbers laid into the slots of an order -/
theorem mem_heldX {r : Row} {l : List Nat} {x : Nat} : x ∈ heldOf r l ↔ x ∈ l ∧ (x ∈ r.ends ∨ ∃ y ∈ needed r, x ∈ r.uses y ∧ y ∉ l) := by
  unfold heldOf
  rw [List.mem_filter, Bool.or_eq_true, decide_eq_true_iff, Bool.not_eq_true', List.all_eq_false]
  refine and_congr Iff.rfl (or_congr Iff.rfl ⟨fun ⟨y, hy, hn⟩ => ?_, fun ⟨y, h1, h2, h3⟩ => ⟨y, mem_users.mpr ⟨h1, h2⟩, by simpa using h3⟩⟩)
  obtain ⟨h1, h2⟩ := mem_users.mp hy
  exact ⟨y, h1, h2, by simpa using hn⟩
def slotL (r : Row) (o : List Nat) (x : Nat) : Nat := lookN o (slotsOf r o) x
theorem slotsUp_take (r : Row) (o : List Nat) : ∀ n i, i ≤ n → (slotsUp r o n).take i = slotsUp r o i
  | 0, i, h => by have : i = 0 := by omega
                  subst this; rfl
  | n + 1, i, h => by
    by_cases e : i = n + 1
    · subst e; rw [List.take_of_length_le (by rw [slotsUp_len]; exact Nat.le_refl _)]
    · show (slotsUp r o n ++ [_]).take i = _
      rw [List.take_append_of_le_length (by rw [slotsUp_len]; omega)]
      exact slotsUp_take r o n i (by omega)
theorem slotsOf_get {r : Row} {o : List Nat} {i : Nat} (h : i < o.length) : (slotsOf r o)[i]? = some (mexN (takenAt r o (slotsUp r o i) i)) := by
  have e := slotsUp_take r o o.length (i + 1) h
  have e2 : (slotsUp r o (i + 1))[i]? = some (mexN (takenAt r o (slotsUp r o i) i)) := by
    show (slotsUp r o i ++ [_])[i]? = _
    rw [List.getElem?_append_right (by rw [slotsUp_len]; exact Nat.le_refl _), slotsUp_len, Nat.sub_self]
    rfl
  rw [← e, List.getElem?_take_of_lt (Nat.lt_succ_self i)] at e2
  exact e2
theorem slotL_at {r : Row} {o : List Nat} (on : o.Nodup) {i z : Nat} (h : o[i]? = some z) : slotL r o z = mexN (takenAt r o (slotsUp r o i) i) :=
  lookN_get on h (slotsOf_get (List.getElem?_eq_some_iff.mp h).1)
theorem slotL_up {r : Row} {o : List Nat} (on : o.Nodup) {i x : Nat} (hi : i ≤ o.length) (h : x ∈ o.take i) : lookN o (slotsUp r o i) x = slotL r o x := by
  obtain ⟨j, hj, e⟩ := List.getElem_of_mem h
  rw [List.length_take] at hj
  rw [List.getElem_take] at e
  have ej : o[j]? = some x := by rw [List.getElem?_eq_getElem (by omega), e]
  have hs := slotsOf_get (r := r) (o := o) (i := j) (by omega)
  rw [slotL, lookN_get on ej hs]
  refine lookN_get on ej ?_
  have e3 := slotsUp_take r o o.length i hi
  rw [← e3, List.getElem?_take_of_lt (by omega)]
  exact hs
theorem take_mem_succ {o : List Nat} {i z x : Nat} (h : o[i]? = some z) (hx : x ∈ o.take (i + 1)) : x = z ∨ x ∈ o.take i := by
  rw [take_snoc h] at hx
  rcases List.mem_append.mp hx with hx | hx
  · exact .inr hx
  · exact .inl (List.mem_singleton.mp hx)
theorem held_down {r : Row} {o : List Nat} {i z x : Nat} (h : o[i]? = some z) (hx : x ∈ heldOf r (o.take (i + 1))) (hne : x ≠ z) : x ∈ heldOf r (o.take i) := by
  obtain ⟨h1, h2⟩ := mem_heldX.mp hx
  refine mem_heldX.mpr ⟨(take_mem_succ h h1).resolve_left hne, h2.imp id fun ⟨y, a, b, c⟩ => ⟨y, a, b, fun q => c ?_⟩⟩
  rw [take_snoc h]
  exact List.mem_append_left _ q
theorem slot_taken {r : Row} {o : List Nat} (on : o.Nodup) {i y z : Nat} (h : o[i]? = some z) (hy : y ∈ heldOf r (o.take (i + 1))) (hne : y ≠ z) : slotL r o y ∈ takenAt r o (slotsUp r o i) i := by
  have h1 := held_down h hy hne
  have hi : i < o.length := (List.getElem?_eq_some_iff.mp h).1
  rw [← slotL_up on (Nat.le_of_lt hi) (heldOf_sub h1)]
  exact List.mem_map.mpr ⟨y, List.mem_filter.mpr ⟨h1, by simpa using hy⟩, rfl⟩
theorem slot_live {r : Row} {o : List Nat} (on : o.Nodup) : ∀ i, i ≤ o.length → ∀ x ∈ heldOf r (o.take i), ∀ y ∈ heldOf r (o.take i), x ≠ y → slotL r o x ≠ slotL r o y
  | 0, _, x, hx, _, _, _ => by have := (mem_heldX.mp hx).1; simp at this
  | i + 1, hi, x, hx, y, hy, hne => by
    have hz : o[i]? = some o[i] := List.getElem?_eq_getElem (by omega)
    generalize o[i] = z at hz
    by_cases ex : x = z
    · subst ex
      rw [slotL_at on hz]
      intro e
      have := slot_taken on hz hy (Ne.symm hne)
      rw [← e] at this
      exact mexN_not _ this
    · by_cases ey : y = z
      · subst ey
        rw [slotL_at on hz]
        intro e
        have := slot_taken on hz hx ex
        rw [e] at this
        exact mexN_not _ this
      · exact slot_live on i (by omega) x (held_down hz hx ex) y (held_down hz hy ey) hne
theorem ord_get {o : List Nat} (on : o.Nodup) {i z : Nat} (h : o[i]? = some z) : z ∉ o.take i := fun hz => by
  obtain ⟨j, hj, e⟩ := List.getElem_of_mem hz
  rw [List.length_take] at hj
  rw [List.getElem_take] at e
  have h1 := idxOf_get on h
  have h2 := idxOf_get on (j := j) (x := z) (by rw [List.getElem?_eq_getElem (by omega), e])
  omega
theorem held_new {r : Row} (ok : r.Ok) {o : List Nat} (io : IsOrd r o) {i z : Nat} (h : o[i]? = some z) : z ∈ heldOf r (o.take (i + 1)) := by
  refine mem_heldX.mpr ⟨by rw [take_snoc h]; simp, ?_⟩
  have hz : z ∈ needed r := io.mem.mp (List.mem_of_getElem? h)
  rcases (nd_iff ok).mp hz with he | ⟨y, hy, hu⟩
  · exact .inl he
  · refine .inr ⟨y, hy, hu, fun q => ?_⟩
    obtain ⟨j, hj, e⟩ := List.getElem_of_mem q
    rw [List.length_take] at hj
    rw [List.getElem_take] at e
    have h2 := io.uses j y (by rw [List.getElem?_eq_getElem (by omega), e]) z hu
    exact ord_get io.nodup h ((List.take_subset_take_left o (show j ≤ i by omega)) h2)
theorem held_use {r : Row} {o : List Nat} (io : IsOrd r o) {i z u : Nat} (h : o[i]? = some z) (hu : u ∈ r.uses z) : u ∈ heldOf r (o.take i) :=
  mem_heldX.mpr ⟨io.uses i z h u hu, .inr ⟨z, io.mem.mp (List.mem_of_getElem? h), hu, ord_get io.nodup h⟩⟩
theorem getK_setK {β : Type} {kvs : List (Int × β)} {k k' : Int} {v : β} : getK (setK kvs k v) k' = if k' = k then some v else getK kvs k' := by
  unfold setK
  split
  · rename_i h
    induction kvs with
    | nil => simp at h
    | cons p kvs ih =>
      unfold getK at ih ⊢
      rw [List.map_cons, List.find?_cons, List.find?_cons]
      by_cases hp : p.1 = k
      · rw [if_pos hp]
        by_cases e : k' = k
        · subst e; simp [hp]
        · have e2 : ¬ p.1 = k' := fun q => e (by rw [← q, hp])
          simp only [e2, decide_false, if_neg e]
          by_cases ha : (kvs.any fun kv => decide (kv.1 = k)) = true
          · have := ih ha
            rw [if_neg e] at this
            exact this
          · have : kvs.map (fun kv => if kv.1 = k then (kv.1, v) else kv) = kvs := by
              rw [List.map_congr_left (g := id) (fun q hq => ?_), List.map_id]
              have : ¬ q.1 = k := fun z => ha (List.any_eq_true.mpr ⟨q, hq, by simpa using z⟩)
              rw [if_neg this]; rfl
            rw [this]
      · rw [if_neg hp]
        have ha : (kvs.any fun kv => decide (kv.1 = k)) = true := by simpa [hp] using h
        by_cases e : k' = k
        · subst e
          have := ih ha
          rw [if_pos rfl] at this ⊢
          simp only [hp, decide_false]
          exact this
        · have := ih ha
          rw [if_neg e] at this ⊢
          cases decide (p.1 = k') with
          | true => rfl
          | false => exact this
  · rename_i h
    unfold getK
    rw [List.find?_append]
    by_cases e : k' = k
    · subst e
      have : kvs.find? (fun kv => decide (kv.1 = k')) = none := List.find?_eq_none.mpr fun q hq => by
        intro z
        exact h (List.any_eq_true.mpr ⟨q, hq, z⟩)
      rw [this]
      simp
    · have e2 : ¬ k = k' := fun q => e q.symm
      rw [if_neg e]
      simp [e2]
def valR (r : Row) (pt : List Int) (x : Nat) : Int := (valuesOf r.steps pt).getD x 0
theorem values_take (xs : List Stp) (pt : List Int) : ∀ n k, k ≤ n → n ≤ xs.length → (valuesOf (xs.take n) pt).take k = valuesOf (xs.take k) pt
  | 0, k, h, _ => by have : k = 0 := by omega
                     subst this; simp [valuesOf]
  | n + 1, k, h, hn => by
    by_cases e : k = n + 1
    · subst e; rw [List.take_of_length_le (by rw [valuesOf_len, List.length_take]; omega)]
    · have hx : xs[n]? = some xs[n] := List.getElem?_eq_getElem (by omega)
      rw [take_snoc hx, valuesOf_snoc, List.take_append_of_le_length (by rw [valuesOf_len, List.length_take]; omega)]
      exact values_take xs pt n k (by omega) (by omega)
theorem valR_eq {r : Row} (ok : r.Ok) (pt : List Int) {x : Nat} (h : x < r.steps.length) : valR r pt x = (r.step x).value pt (valuesOf r.steps pt) := by
  have hx : r.steps[x]? = some r.steps[x] := List.getElem?_eq_getElem h
  have e1 := values_take r.steps pt r.steps.length (x + 1) h (Nat.le_refl _)
  have e0 := values_take r.steps pt r.steps.length x (Nat.le_of_lt h) (Nat.le_refl _)
  rw [List.take_length] at e1 e0
  have es : r.step x = r.steps[x] := by unfold Row.step; rw [List.getD_eq_getElem?_getD, hx]; rfl
  have a : valR r pt x = (r.step x).value pt (valuesOf (r.steps.take x) pt) := by
    unfold valR
    rw [List.getD_eq_getElem?_getD, ← List.getElem?_take_of_lt (Nat.lt_succ_self x), e1, take_snoc hx, valuesOf_snoc, List.getElem?_append_right (by rw [valuesOf_len, List.length_take]; omega), valuesOf_len, List.length_take, Nat.min_eq_left (Nat.le_of_lt h), Nat.sub_self, es]
    rfl
  have g : ∀ u ∈ r.uses x, (valuesOf (r.steps.take x) pt).getD u 0 = (valuesOf r.steps pt).getD u 0 := fun u hu => by
    rw [← e0, List.getD_eq_getElem?_getD, List.getD_eq_getElem?_getD, List.getElem?_take_of_lt (ok.use hu)]
  rw [a]
  unfold Row.uses at g
  cases hs : r.step x with
  | inn k => rfl
  | st k => rfl
  | neg i => rw [hs] at g; show 0 - _ = 0 - _; rw [g i (by simp [Stp.uses])]
  | add i j => rw [hs] at g; show _ + _ = _ + _; rw [g i (by simp [Stp.uses]), g j (by simp [Stp.uses])]
  | sub i j => rw [hs] at g; show _ - _ = _ - _; rw [g i (by simp [Stp.uses]), g j (by simp [Stp.uses])]
  | mul i j => rw [hs] at g; show _ * _ = _ * _; rw [g i (by simp [Stp.uses]), g j (by simp [Stp.uses])]
def MemOk (r : Row) (o : List Nat) (pt : List Int) (i : Nat) (kvs : List (Int × PyData)) : Prop := ∀ x ∈ heldOf r (o.take i), getK kvs (slotL r o x : Int) = some (.int (valR r pt x))
theorem MemOk.zero {r : Row} {o : List Nat} {pt : List Int} : MemOk r o pt 0 [] := fun x hx => by have := (mem_heldX.mp hx).1; simp at this
theorem MemOk.put {r : Row} {o : List Nat} (on : o.Nodup) {pt : List Int} {i z : Nat} {kvs : List (Int × PyData)} (h : MemOk r o pt i kvs) (hz : o[i]? = some z) : MemOk r o pt (i + 1) (setK kvs (slotL r o z : Int) (.int (valR r pt z))) := fun x hx => by
  rw [getK_setK]
  by_cases e : x = z
  · subst e; rw [if_pos rfl]
  · have hi : i < o.length := (List.getElem?_eq_some_iff.mp hz).1
    have h1 := held_down hz hx e
    have : ¬ (slotL r o x : Int) = (slotL r o z : Int) := fun q => by
      have h2 := slot_taken on hz hx e
      have h3 : slotL r o x = slotL r o z := by omega
      rw [h3, slotL_at on hz] at h2
      exact mexN_not _ h2
    rw [if_neg this]
    exact h x h1
theorem held_all {r : Row} {o : List Nat} (io : IsOrd r o) {x : Nat} : x ∈ heldOf r o ↔ x ∈ o ∧ x ∈ r.ends := by
  rw [mem_heldX]
  exact and_congr Iff.rfl ⟨fun h => h.elim id fun ⟨y, hy, _, hn⟩ => absurd (io.mem.mpr hy) hn, .inl⟩
theorem ordL_ne {r : Row} (ok : r.Ok) {o : List Nat} (io : IsOrd r o) : o ≠ [] := fun e => by
  obtain ⟨x, hx⟩ := List.exists_mem_of_ne_nil _ ok.ne
  have := io.mem.mpr (nd_end ok hx)
  rw [e] at this
  cases this
theorem held_nodup {r : Row} {l : List Nat} (h : l.Nodup) : (heldOf r l).Nodup := h.filter _
theorem last_held {r : Row} (ok : r.Ok) {o : List Nat} (io : IsOrd r o) : (heldOf r o).length = (setN r.ends).length := by
  refine List.Perm.length_eq ((List.perm_ext_iff_of_nodup (held_nodup io.nodup) (setN_nodup _)).mpr fun x => ?_)
  rw [held_all io, mem_setN]
  exact ⟨fun h => h.2, fun h => ⟨io.mem.mpr (nd_end ok h), h⟩⟩
theorem heldNums_get {r : Row} {o : List Nat} {i : Nat} (h : i < o.length) : (heldNums r o)[i]? = some (heldOf r (o.take (i + 1))).length := by
  unfold heldNums heldRows
  rw [List.map_map, List.getElem?_map, List.getElem?_range h]
  rfl
theorem heldNums_len (r : Row) (o : List Nat) : (heldNums r o).length = o.length := by simp [heldNums, heldRows]
theorem load_slots {r : Row} (ok : r.Ok) {o : List Nat} (io : IsOrd r o) : loadOf r o = maxL (slotsOf r o) + 1 := by
  have on := io.nodup
  have hl : (slotsOf r o).length = o.length := slotsUp_len r o o.length
  have hne := ordL_ne ok io
  have hpos : 0 < o.length := List.length_pos_iff.mpr hne
  refine Nat.le_antisymm ?_ ?_
  · unfold loadOf
    refine maxL_le fun m hm => ?_
    obtain ⟨i, hi, e⟩ := List.getElem_of_mem hm
    rw [heldNums_len] at hi
    have e2 := heldNums_get (r := r) hi
    rw [List.getElem?_eq_getElem (by rw [heldNums_len]; exact hi), e] at e2
    cases e2
    have nd : ((heldOf r (o.take (i + 1))).map (slotL r o)).Nodup := by
      rw [List.nodup_iff_pairwise_ne, List.pairwise_map]
      refine List.Pairwise.imp_of_mem (fun {a b} ha hb hab => slot_live on (i + 1) hi a ha b hb hab) (held_nodup (on.sublist (List.take_sublist _ _)))
    have := nodup_sub_len nd (m := List.range (maxL (slotsOf r o) + 1)) fun v hv => by
      obtain ⟨x, hx, rfl⟩ := List.mem_map.mp hv
      obtain ⟨j, hj, e⟩ := List.getElem_of_mem (heldOf_sub hx)
      rw [List.length_take] at hj
      rw [List.getElem_take] at e
      have ej : o[j]? = some x := by rw [List.getElem?_eq_getElem (by omega), e]
      have hs := slotsOf_get (r := r) (o := o) (i := j) (by omega)
      have : slotL r o x ∈ slotsOf r o := by rw [slotL_at on ej]; exact List.mem_of_getElem? hs
      exact List.mem_range.mpr (Nat.lt_succ_of_le (le_maxL this))
    rw [List.length_map, List.length_range] at this
    exact this
  · have hm := maxL_mem (l := slotsOf r o) (fun e => by rw [e] at hl; simp at hl; omega)
    obtain ⟨i, hi, e⟩ := List.getElem_of_mem hm
    rw [hl] at hi
    have hs := slotsOf_get (r := r) (o := o) hi
    rw [List.getElem?_eq_getElem (by rw [hl]; exact hi), e] at hs
    have hs := Option.some.inj hs
    have hz : o[i]? = some o[i] := List.getElem?_eq_getElem hi
    have h1 := mexN_le (takenAt r o (slotsUp r o i) i)
    have h2 : (takenAt r o (slotsUp r o i) i).length + 1 ≤ (heldOf r (o.take (i + 1))).length := by
      unfold takenAt
      rw [List.length_map]
      have nd : (o[i] :: (heldOf r (o.take i)).filter fun x => decide (x ∈ heldOf r (o.take (i + 1)))).Nodup := by
        rw [List.nodup_cons]
        exact ⟨fun q => ord_get on hz (heldOf_sub (List.mem_filter.mp q).1), (held_nodup (on.sublist (List.take_sublist _ _))).filter _⟩
      exact nodup_sub_len nd fun x hx => by
        rcases List.mem_cons.mp hx with rfl | hx
        · exact held_new ok io hz
        · simpa using (List.mem_filter.mp hx).2
    have h3 : (heldOf r (o.take (i + 1))).length ≤ loadOf r o := le_maxL (List.mem_of_getElem? (heldNums_get (r := r) hi))
    omega
end Rb
end
section
set_option Elab.async false
set_option linter.all false
set_option autoImplicit false
set_option maxRecDepth 100000
set_option maxHeartbeats 4000000
set_option exponentiation.threshold 500000
namespace Rb
open PySem PySem.Spec PyProof.Rows L2
theorem slots_map {r : Row} {o : List Nat} (io : IsOrd r o) : slotsOf r o = o.map (slotL r o) :=
  (map_lookN io.nodup (show (slotsOf r o).length = o.length from slotsUp_len r o o.length)).symm
theorem zip_slots {r : Row} {o : List Nat} (io : IsOrd r o) : zipD (natsD o) (natsD (slotsOf r o)) = o.map fun x => .tuple [.int (x : Int), .int (slotL r o x : Int)] := by
  rw [slots_map io]
  unfold zipD natsD
  rw [List.map_map, List.zip_map', List.map_map]
  rfl
theorem dict_slots {r : Row} {o : List Nat} (io : IsOrd r o) : (nI o).zip (natsD (slotsOf r o)) = o.map fun x : Nat => ((x : Int), PyData.int (slotL r o x : Int)) := by
  rw [slots_map io]
  unfold nI natsD
  rw [List.map_map, List.zip_map']
  rfl
theorem kids_nodup_len {r : Row} {x : Nat} : (r.uses x).length ≤ 100000 := Nat.le_trans (uses_len r x) (by decide)
section
variable {P : Program} {w : World} {K : PySem.W.Frag} {mg : Str → Option Value} {base : Heap}
abbrev sLawLaid : Stmt := topS 72
abbrev nLawLaid : List Str := ["_law_row_here", "_law_order_here", "_law_point_here", "_law_places", "_law_found", "_law_number_here", "_law_slot", "_law_step", "_law_where", "_law_some", "_law_new", "_law_end", "_law_one_here", "_law_other"]
theorem scLawLaid : FnScope nLawLaid ["_law_row_here", "_law_order_here", "_law_point_here"] (defScope sLawLaid) := ⟨rfl, rfl, rfl, by decide +kernel, rfl, by decide +kernel, by decide +kernel⟩
def spLaid : Sp := fun vs H Q _ => ∃ (Ms : MS) (r : Row) (o : List Nat) (pt : List Int), r.Ok ∧ r.steps.length ≤ 60 ∧ r.ends.length ≤ 60 ∧ IsOrd r o ∧ pt.length = r.inputs ∧ SmallPt r pt ∧ Pu Ms [dp (encR r), dp (.tuple (natsD o)), dp (.tuple (intsD pt))] (dp (.tuple (intsD (told r pt)))) vs H Q
theorem cal_law_laid (T : Txt K mg) (c_slots : C8.Cal P w K mg base 5 "slots" spSlots []) : C8.Cal P w K mg base 6 "_law_laid" spLaid [] := by
  refine mk_cal (x := "_law_laid") (i := 72) (j := 56) T rfl scLawLaid (fun _ _ _ _ _ _ us hl => match us, hl with | [_, _, _], _ => rfl) (fun vs H Q E h => ?_) (fun f cdv A outer s H vs Q E hr h => ?_)
  · obtain ⟨Ms, r, o, pt, _, _, _, _, _, _, R, _, _, h, _⟩ := h
    exact (paired_len h).trans rfl
  obtain ⟨Ms, r, o, pt, ok, hs, he, io, hpt, sm, R, wf, mu, ha, q⟩ := h
  refine ⟨_, (pss_cons (ps_asg (pe_tup (pa_cons (C8.pe_c c_slots hr (by decide) rfl (pa_cons (pv 0) (pa_cons (pv 1) pa_nil))) (pa_cons pe_dnewK pa_nil))) (k_pg_tup K (n := 2) rfl (pgs_cons (pg_name (i := 3) scLawLaid.nd rfl (by first | exact Or.inl rfl | exact Or.inr rfl)) (pgs_cons (pg_name (i := 4) scLawLaid.nd rfl (by first | exact Or.inl rfl | exact Or.inr rfl)) pgs_nil))))
      (pss_cons (ps_for PassesOwn.never rfl (k_zipA K (by rfl) T.b_zip (pa_cons (pv 1) (pa_cons (pv 3) pa_nil))) (k_pg_tup K (n := 2) rfl (pgs_cons (pg_name (i := 5) scLawLaid.nd rfl (by first | exact Or.inl rfl | exact Or.inr rfl)) (pgs_cons (pg_name (i := 6) scLawLaid.nd rfl (by first | exact Or.inl rfl | exact Or.inr rfl)) pgs_nil)))
      (pss_cons (ps_set (i := 7) scLawLaid.nd rfl (by first | exact Or.inl rfl | exact Or.inr rfl) (pe_ix (k_ix_tup K) (pe_ix (k_ix_tup K) (pv 0) pe_int (fun _ _ => rfl)) (pv 5) (fun _ _ => rfl)))
      (pss_cons (ps_set (i := 8) scLawLaid.nd rfl (by first | exact Or.inl rfl | exact Or.inr rfl) (pe_dictZip K rfl (by rfl) T.b_dict (by rfl) T.b_zip (pv 1) (pv 3)))
      (pss_cons (ps_set (i := 9) scLawLaid.nd rfl (by first | exact Or.inl rfl | exact Or.inr rfl) (pe_ifExp (pt_cmpR (k_in K) (pe_ix (k_ix_tup K) (pv 7) pe_int (fun _ _ => rfl)) (pe_tup (pa_cons pe_str (pa_cons pe_str (pa_cons pe_str (pa_cons pe_str pa_nil))))) (by rfl)) (pe_lc (own := [("_law_one_here", 12)]) rfl scLawLaid.nd (k_pi_tup K (pe_slice (k_slT K) (pv 7) (po_some pe_int) po_none)) (blkOk_by (own := [("_law_one_here", 12)]) (N := nLawLaid) (sc := defScope sLawLaid) (by decide +kernel)) (fun _ _ _ _ _ => (pg_name (i := 12) scLawLaid.nd rfl (by first | exact Or.inl rfl | exact Or.inr rfl))) (fun _ _ _ _ _ => pts_nil) (fun _ _ _ _ _ => (pe_dget (hu_of hr) (pv 4) (pe_dget (hu_of hr) (pv 8) (pv 12) (fun _ _ => rfl)) (fun _ _ => rfl)))) (pe_lst pa_nil)))
      (C8.pss_cut (ps_if (pt_cmpR op_eq (pe_ix (k_ix_tup K) (pv 7) pe_int (fun _ _ => rfl)) pe_str (nomark _)) (pss_one (ps_set (i := 10) scLawLaid.nd rfl (by first | exact Or.inl rfl | exact Or.inr rfl) (pe_ix (k_ix_tup K) (pv 2) (pe_ix (k_ix_tup K) (pv 7) pe_int (fun _ _ => rfl)) (fun _ _ => rfl)))) (pss_one (ps_if (pt_cmpR op_eq (pe_ix (k_ix_tup K) (pv 7) pe_int (fun _ _ => rfl)) pe_str (nomark _)) (pss_one (ps_set (i := 10) scLawLaid.nd rfl (by first | exact Or.inl rfl | exact Or.inr rfl) (pe_ix (k_ix_tup K) (pv 7) pe_int (fun _ _ => rfl)))) (pss_one (ps_if (pt_cmpR op_eq (pe_ix (k_ix_tup K) (pv 7) pe_int (fun _ _ => rfl)) pe_str (nomark _)) (pss_one (ps_set (i := 10) scLawLaid.nd rfl (by first | exact Or.inl rfl | exact Or.inr rfl) (pe_op op_sub pe_int (pe_ix (k_ix_list K) (pv 9) pe_int (fun _ _ => rfl))))) (pss_cons (ps_asg (pv 9) (k_pg_unl K (n := 2) rfl (pgs_cons (pg_name (i := 12) scLawLaid.nd rfl (by first | exact Or.inl rfl | exact Or.inr rfl)) (pgs_cons (pg_name (i := 13) scLawLaid.nd rfl (by first | exact Or.inl rfl | exact Or.inr rfl)) pgs_nil))))
      (pss_one (ps_set (i := 10) scLawLaid.nd rfl (by first | exact Or.inl rfl | exact Or.inr rfl) (pe_ifExp (pt_cmpR op_eq (pe_ix (k_ix_tup K) (pv 7) pe_int (fun _ _ => rfl)) pe_str (nomark _)) (pe_op op_add (pv 12) (pv 13)) (pe_ifExp (pt_cmpR op_eq (pe_ix (k_ix_tup K) (pv 7) pe_int (fun _ _ => rfl)) pe_str (nomark _)) (pe_op op_sub (pv 12) (pv 13)) (pe_op op_mulW (pv 12) (pv 13))))))))))))
      (pss_one (ps_dput (hu_of hr) (pv 4) (pv 6) (pv 10) rfl)))))))
      (pss_one (ps_ret (pe_callTy (k_tupof K) (by rfl) T.b_tuple b_tuple (pa_cons (pe_lc (own := [("_law_end", 11)]) rfl scLawLaid.nd (k_pi_tup K (pe_ix (k_ix_tup K) (pv 0) pe_int (fun _ _ => rfl))) (blkOk_by (own := [("_law_end", 11)]) (N := nLawLaid) (sc := defScope sLawLaid) (by decide +kernel)) (fun _ _ _ _ _ => (pg_name (i := 11) scLawLaid.nd rfl (by first | exact Or.inl rfl | exact Or.inr rfl))) (fun _ _ _ _ _ => pts_nil) (fun _ _ _ _ _ => (pe_dget (hu_of hr) (pv 4) (pe_dget (hu_of hr) (pe_dictZip K rfl (by rfl) T.b_dict (by rfl) T.b_zip (pv 1) (pv 3)) (pv 11) (fun _ _ => rfl)) (fun _ _ => rfl)))) pa_nil)))))), ?_⟩
  refine go_start wf mu ha ?_
  have on := io.nodup
  have hol : o.length ≤ 60 := by rw [io.len]; exact Nat.le_trans (needed_len r) hs
  have hsl : (slotsOf r o).length = o.length := slotsUp_len r o o.length
  have small : Small (valuesOf r.steps pt) := by have := sm r.steps.length; rwa [List.take_length] at this
  have mulok : ∀ i j, CMulW (valR r pt i) (valR r pt j) := fun i j => small.mul i j
  refine go_seq (go_tupAN (A := dp (.tuple (natsD (slotsOf r o)))) (ev_call (ea_cons (ev_var (by rfl)) (ea_cons (ev_var (by rfl)) ea_nil)) (fun vs H Q h => ⟨_, r, o, ok, hs, io, h⟩)) en_dK fun pf hpf => ?_)
  have edict : ∀ {Ms : MS} {Bs : AS}, Bs[1]? = some (some (dp (.tuple (natsD o)))) → Bs[3]? = some (some (dp (.tuple (natsD (slotsOf r o))))) → Ev pu Ms Bs (tDictZip K (tVar 1) (tVar 3)) (dicK (o.map fun x : Nat => ((x : Int), PyData.int (slotL r o x : Int)))) := fun h1 h3 => by
    rw [← dict_slots io]
    exact EvN.dk (en_dictZip ((ev_var h1).to (by rw [natsD_nI])) (ev_var h3) (by rw [nI_len, natsD_len, hsl]) (nI_nodup on))
  have elook : ∀ {Ms : MS} {Bs : AS} {ta tb : TE} {x : Nat}, Ev pu Ms Bs ta (dicK (o.map fun x : Nat => ((x : Int), PyData.int (slotL r o x : Int)))) → Ev pu Ms Bs tb (dp (.int (x : Int))) → x ∈ o → Ev pu Ms Bs (tDGet ta tb) (dp (.int (slotL r o x : Int))) := fun h1 h2 hx => ev_dgetK (Ev.dk h1) h2 (getK_map (fun x => PyData.int (slotL r o x : Int)) hx)
  refine go_seq (go_for2 o (fun x : Nat => .int (x : Int)) (fun x => .int (slotL r o x : Int)) ((ei_zipTT (ev_var (by rfl)) (ev_var (by rfl)) (by rw [natsD_len, natsD_len, hsl])).to (zip_slots io))
    (fun i Ms2 As2 => ∃ kvs, MemOk r o pt i kvs ∧ kvs.length ≤ i ∧ Ms2 = (pf, .dK kvs) :: Ms ∧ ∃ X5 X6 X7 X8 X9 X10 X12 X13, As2 = [some (dp (encR r)), some (dp (.tuple (natsD o))), some (dp (.tuple (intsD pt))), some (dp (.tuple (natsD (slotsOf r o)))), some (valA (.ref pf)), X5, X6, X7, X8, X9, X10, none, X12, X13])
    ⟨[], MemOk.zero, Nat.le_refl _, rfl, _, _, _, _, _, _, _, _, rfl⟩ ?_ ?_)
  · rintro Rb hb i z _ _ hz ⟨kvs, mem, hkl, rfl, X5, X6, X7, X8, X9, X10, X12, X13, rfl⟩
    have hio : i < o.length := (List.getElem?_eq_some_iff.mp hz).1
    have hzn : z ∈ needed r := io.mem.mp (List.mem_of_getElem? hz)
    have hzl := nd_lt hzn
    dsimp only
    refine go_seq (go_asg (A := dp (encS (r.step z))) (ev_step (by rfl) (ev_var (by rfl)) hzl) ?_)
    dsimp only
    refine go_seq (go_asg (edict (by rfl) (by rfl)) ?_)
    dsimp only
    have efound : ∀ {Bs : AS} {tb : TE} {u : Nat}, Bs[4]? = some (some (valA (.ref pf))) → Ev pu ((pf, .dK kvs) :: Ms) Bs tb (dp (.int (slotL r o u : Int))) → u ∈ r.uses z → Ev pu ((pf, .dK kvs) :: Ms) Bs (tDGet (tVar 4) tb) (dp (.int (valR r pt u))) := fun h4 h hu => ev_dgetK (Ms' := [(pf, .dK kvs)]) (Ev.dko (ev_var h4) (by simp)) h (mem _ (held_use io hz hu)) (by intro x hx; rw [List.mem_singleton.mp hx]; simp)
    have huo : ∀ u ∈ r.uses z, u ∈ o := fun u hu => List.mem_of_mem_take (io.uses i z hz u hu)
    have hv := valR_eq ok pt hzl
    refine go_seq (go_asg (A := dp (.list ((r.uses z).map fun u => PyData.int (valR r pt u)))) ?_ ?_)
    · have hk2 : (r.uses z).length ≤ 100000 := kids_nodup_len
      unfold Row.uses at huo efound hk2 ⊢
      generalize hst : r.step z = s at *
      cases s <;> first
        | exact ev_ifF (et_B (ev_inS (neg := false) (xs := ["neg", "+", "-", "*"]) (ev_ixTn 0 (ev_var (by rfl)) ev_int (by rfl)) (ev_tup4 ev_str ev_str ev_str ev_str))) (by rfl) el_lst0.ev
        | exact ev_ifT (et_B (ev_inS (neg := false) (xs := ["neg", "+", "-", "*"]) (ev_ixTn 0 (ev_var (by rfl)) ev_int (by rfl)) (ev_tup4 ev_str ev_str ev_str ev_str))) (by rfl) (EvL.ev (el_map _ (fun n : Nat => .int (n : Int)) (fun u => .int (valR r pt u)) (ei_tup ((ev_slT (ev_var (by rfl)) (eo_some ev_int) eo_none).to (by rfl))) (fun _ _ => tg_name) (fun u hu => efound (by rfl) (elook (ev_var (by rfl)) (ev_var (by rfl)) (huo u hu)) hu) hk2 (by decide)))
    dsimp only
    refine go_cut (fun Ms2 As2 => Ms2 = (pf, .dK kvs) :: Ms ∧ ∃ X8 X9 X12 X13, As2 = [some (dp (encR r)), some (dp (.tuple (natsD o))), some (dp (.tuple (intsD pt))), some (dp (.tuple (natsD (slotsOf r o)))), some (valA (.ref pf)), some (dp (.int (z : Int))), some (dp (.int (slotL r o z : Int))), some (dp (encS (r.step z))), X8, X9, some (dp (.int (valR r pt z))), none, X12, X13]) ?_ ?_
    · have hinn : ∀ k, r.step z = .inn k → k < pt.length := fun k e => by
        rw [hpt]
        exact ok.inn z k (by rw [← e]; unfold Row.step; rw [List.getD_eq_getElem?_getD, List.getElem?_eq_getElem hzl]; rfl)
      unfold Row.uses
      generalize hst : r.step z = s at *
      cases s with
      | inn k =>
        refine go_ifT (et_B (ev_eqs (ev_ixTn 0 (ev_var (by rfl)) ev_int (by rfl)) ev_str)) (by rfl) ?_
        exact go_asg (A := dp (.int (valR r pt z))) ((ev_ixTn k (ev_var (by rfl)) (ev_ixTn 1 (ev_var (by rfl)) ev_int (by rfl)) (ints_get (hinn k rfl))).to (by rw [hv] <;> rfl)) (go_inv ⟨rfl, _, _, _, _, rfl⟩)
      | st k =>
        refine go_ifF (et_B (ev_eqs (ev_ixTn 0 (ev_var (by rfl)) ev_int (by rfl)) ev_str)) (by rfl) ?_
        refine go_ifT (et_B (ev_eqs (ev_ixTn 0 (ev_var (by rfl)) ev_int (by rfl)) ev_str)) (by rfl) ?_
        exact go_asg (A := dp (.int (valR r pt z))) ((ev_ixTn (d := .int k) 1 (ev_var (by rfl)) ev_int (by rfl)).to (by rw [hv] <;> rfl)) (go_inv ⟨rfl, _, _, _, _, rfl⟩)
      | neg i' =>
        refine go_ifF (et_B (ev_eqs (ev_ixTn 0 (ev_var (by rfl)) ev_int (by rfl)) ev_str)) (by rfl) ?_
        refine go_ifF (et_B (ev_eqs (ev_ixTn 0 (ev_var (by rfl)) ev_int (by rfl)) ev_str)) (by rfl) ?_
        refine go_ifT (et_B (ev_eqs (ev_ixTn 0 (ev_var (by rfl)) ev_int (by rfl)) ev_str)) (by rfl) ?_
        exact go_asg (A := dp (.int (valR r pt z))) ((ev_sub ev_int (ev_ixLn (d := .int (valR r pt i')) 0 (Ev.ls (ev_var (by rfl))) ev_int (by rfl))).to (by rw [hv] <;> rfl)) (go_inv ⟨rfl, _, _, _, _, rfl⟩)
      | add i' j' =>
        refine go_ifF (et_B (ev_eqs (ev_ixTn 0 (ev_var (by rfl)) ev_int (by rfl)) ev_str)) (by rfl) ?_
        refine go_ifF (et_B (ev_eqs (ev_ixTn 0 (ev_var (by rfl)) ev_int (by rfl)) ev_str)) (by rfl) ?_
        refine go_ifF (et_B (ev_eqs (ev_ixTn 0 (ev_var (by rfl)) ev_int (by rfl)) ev_str)) (by rfl) ?_
        refine go_seq (go_unl2 (d := .int (valR r pt i')) (e := .int (valR r pt j')) (Ev.ls (ev_var (by rfl))) ?_)
        exact go_asg (A := dp (.int (valR r pt z))) ((ev_ifT (et_B (ev_eqs (ev_ixTn 0 (ev_var (by rfl)) ev_int (by rfl)) ev_str)) (by rfl) (ev_add (i := valR r pt i') (j := valR r pt j') (ev_var (by rfl)) (ev_var (by rfl)))).to (by rw [hv] <;> rfl)) (go_inv ⟨rfl, _, _, _, _, rfl⟩)
      | sub i' j' =>
        refine go_ifF (et_B (ev_eqs (ev_ixTn 0 (ev_var (by rfl)) ev_int (by rfl)) ev_str)) (by rfl) ?_
        refine go_ifF (et_B (ev_eqs (ev_ixTn 0 (ev_var (by rfl)) ev_int (by rfl)) ev_str)) (by rfl) ?_
        refine go_ifF (et_B (ev_eqs (ev_ixTn 0 (ev_var (by rfl)) ev_int (by rfl)) ev_str)) (by rfl) ?_
        refine go_seq (go_unl2 (d := .int (valR r pt i')) (e := .int (valR r pt j')) (Ev.ls (ev_var (by rfl))) ?_)
        exact go_asg (A := dp (.int (valR r pt z))) ((ev_ifF (et_B (ev_eqs (ev_ixTn 0 (ev_var (by rfl)) ev_int (by rfl)) ev_str)) (by rfl) (ev_ifT (et_B (ev_eqs (ev_ixTn 0 (ev_var (by rfl)) ev_int (by rfl)) ev_str)) (by rfl) (ev_sub (i := valR r pt i') (j := valR r pt j') (ev_var (by rfl)) (ev_var (by rfl))))).to (by rw [hv] <;> rfl)) (go_inv ⟨rfl, _, _, _, _, rfl⟩)
      | mul i' j' =>
        refine go_ifF (et_B (ev_eqs (ev_ixTn 0 (ev_var (by rfl)) ev_int (by rfl)) ev_str)) (by rfl) ?_
        refine go_ifF (et_B (ev_eqs (ev_ixTn 0 (ev_var (by rfl)) ev_int (by rfl)) ev_str)) (by rfl) ?_
        refine go_ifF (et_B (ev_eqs (ev_ixTn 0 (ev_var (by rfl)) ev_int (by rfl)) ev_str)) (by rfl) ?_
        refine go_seq (go_unl2 (d := .int (valR r pt i')) (e := .int (valR r pt j')) (Ev.ls (ev_var (by rfl))) ?_)
        exact go_asg (A := dp (.int (valR r pt z))) ((ev_ifF (et_B (ev_eqs (ev_ixTn 0 (ev_var (by rfl)) ev_int (by rfl)) ev_str)) (by rfl) (ev_ifF (et_B (ev_eqs (ev_ixTn 0 (ev_var (by rfl)) ev_int (by rfl)) ev_str)) (by rfl) (ev_mul (i := valR r pt i') (j := valR r pt j') (ev_var (by rfl)) (ev_var (by rfl)) (mulok i' j')))).to (by rw [hv] <;> rfl)) (go_inv ⟨rfl, _, _, _, _, rfl⟩)
    rintro _ _ ⟨rfl, X8, X9, X12, X13, rfl⟩
    refine go_dputK (d := .int (valR r pt z)) (i := (slotL r o z : Int)) 0 (ev_var (by rfl)) (ev_var (by rfl)) (ev_var (by rfl)) (by rfl) hpf (by omega) (go_inv ⟨setK kvs (slotL r o z : Int) (.int (valR r pt z)), mem.put on hz, ?_, rfl, _, _, _, _, _, _, _, _, rfl⟩)
    unfold setK
    split
    · rw [List.length_map]; omega
    · rw [List.length_append, List.length_singleton]; omega
  · rintro _ _ ⟨kvs, mem, hkl, rfl, X5, X6, X7, X8, X9, X10, X12, X13, rfl⟩
    have e : PyData.tuple (intsD (told r pt)) = .tuple (r.ends.map fun e => PyData.int (valR r pt e)) := by
      unfold told intsD
      rw [List.map_map] <;> rfl
    rw [e] at q
    refine go_ret (by exact q) (ev_tupleOf (el_map r.ends (fun n : Nat => .int (n : Int)) (fun e => .int (valR r pt e)) (ei_tup (ev_ixTn 2 (ev_var (by rfl)) ev_int (by rfl))) (fun _ _ => tg_name) (fun n hn => ?_) (by omega) (by decide)).ev.ls)
    have hno : n ∈ o := io.mem.mpr (nd_end ok hn)
    have hh : n ∈ heldOf r (o.take o.length) := by rw [List.take_length]; exact (held_all io).mpr ⟨hno, hn⟩
    exact ev_dgetK (Ms' := [(pf, .dK kvs)]) (Ev.dko (ev_var (by rfl)) (by simp)) (elook (edict (by rfl) (by rfl)) (ev_var (by rfl)) hno) (mem _ hh) (by intro x hx; rw [List.mem_singleton.mp hx]; simp)
end
end Rb
end
section
set_option Elab.async false
set_option linter.all false
set_option autoImplicit false
set_option maxRecDepth 100000
set_option maxHeartbeats 4000000
set_option exponentiation.threshold 500000
namespace Rb
open PySem PySem.Spec PyProof.Rows L2
section
variable {c : Kx} {Ms : MS} {As : AS} {ta tb tc te : TE} {E : XK}
theorem ev_isWay {n p : Nat} {v : List Nat} (h1 : Ev c Ms As ta (dp (.int (n : Int)))) (h2 : Ev c Ms As tb (dp (.int (p : Int)))) (h3 : Ev c Ms As tc (dp (.tuple (natsD v)))) (hp : p ≤ 59) (hv : v.length ≤ 5000) (hx : ∀ x ∈ v, 1 ≤ x ∧ x ≤ n) : Ev c Ms As (tCall spIsWay [] E (tCons ta (tCons tb (tCons tc tNil)))) (dp (.bool (isWay n p v))) :=
  ev_call (ea_cons h1 (ea_cons h2 (ea_cons h3 ea_nil))) (fun vs H Q h => ⟨_, n, p, v, hp, hv, hx, h⟩)
theorem ev_acts {s p : Nat} (h1 : Ev c Ms As ta (dp (.int (s : Int)))) (h2 : Ev c Ms As tb (dp (.int (p : Int)))) (hs : 1 ≤ s) (hs' : s ≤ 60) (hp : p ≤ 60) : Ev c Ms As (tCall spActsNeeded [] E (tCons ta (tCons tb tNil))) (dp (actsD s p)) :=
  ev_call (ea_cons h1 (ea_cons h2 ea_nil)) (fun vs H Q h => ⟨_, s, p, hs, hs', hp, h⟩)
theorem ev_pebN {s : Nat} (h1 : Ev c Ms As ta (dp (.int (s : Int)))) (hs : s ≤ 60) : Ev c Ms As (tCall spPebblesNeeded [] E (tCons ta tNil)) (dp (.int (pebN s : Int))) :=
  ev_call (ea_cons h1 ea_nil) (fun vs H Q h => ⟨_, s, hs, h⟩)
theorem ev_way {s p : Nat} (h1 : Ev c Ms As ta (dp (.int (s : Int)))) (h2 : Ev c Ms As tb (dp (.int (p : Int)))) (hw : wayOk s p = true) : Ev c Ms As (tCall spPebbleWay [] E (tCons ta (tCons tb tNil))) (dp (.tuple (natsD (wayOf s p)))) :=
  ev_call (ea_cons h1 (ea_cons h2 ea_nil)) (fun vs H Q h => ⟨_, s, p, hw, h⟩)
theorem ev_catN {K : PySem.W.Frag} {u v : List Nat} (h1 : Ev c Ms As ta (dp (.tuple (natsD u)))) (h2 : Ev c Ms As tb (dp (.tuple (natsD v)))) (hl : u.length + v.length ≤ 100000) : Ev c Ms As (tOp (rCatA K) ta tb) (dp (.tuple (natsD (u ++ v)))) :=
  (ev_catT h1 h2 (by rw [natsD_len, natsD_len]; exact hl)).to (by rw [natsD_app])
theorem ev_revN {K : PySem.W.Frag} {u : List Nat} (h1 : Ev c Ms As te (dp (.tuple (natsD u)))) : Ev c Ms As (tRevT K te) (dp (.tuple (natsD u.reverse))) :=
  (ev_revT h1).to (by unfold natsD; rw [List.map_reverse])
theorem ev_farN {p a : Nat} (h1 : Ev c Ms As ta (dp (.int (p : Int)))) (h2 : Ev c Ms As tb (dp (.int (a : Int)))) (hp : 1 ≤ p) (hp' : p ≤ 60) : Ev c Ms As (tCall spFarthest [] E (tCons ta (tCons tb tNil))) (dp (.int (farN p a : Int))) :=
  ev_call (ea_cons h1 (ea_cons h2 ea_nil)) (fun vs H Q h => ⟨_, p, a, hp, hp', h⟩)
end
section
variable {P : Program} {w : World} {K : PySem.W.Frag} {mg : Str → Option Value} {base : Heap}
abbrev sLawPebblesRight : Stmt := topS 71
abbrev nLawPebblesRight : List Str := ["_law_deck_here", "_law_pebbles", "_law_there", "_law_on", "_law_back", "_law_most", "_law_rows", "_law_spots", "_law_far_here", "_law_own", "_law_spot"]
theorem scLawPebblesRight : FnScope nLawPebblesRight ["_law_deck_here"] (defScope sLawPebblesRight) := ⟨rfl, rfl, rfl, by decide +kernel, rfl, by decide +kernel, by decide +kernel⟩
def spPebRight : Sp := fun vs H Q _ => ∃ (a b d : Addr) (Ms : MS), Dr a b d Ms [valA (.ref a)] (dp (.bool true)) vs H Q
theorem cal_law_pebbles_right (T : Txt K mg) (c_law_draw : C8.Cal P w K mg base 1 "_law_draw" spDraw []) (c_pebbles_needed : C8.Cal P w K mg base 1 "pebbles_needed" spPebblesNeeded []) (c_pebble_way : C8.Cal P w K mg base 22 "pebble_way" spPebbleWay [])
    (c_is_way : C8.Cal P w K mg base 2 "is_way" spIsWay []) (c_acts_needed : C8.Cal P w K mg base 3 "acts_needed" spActsNeeded []) (c_farthest : C8.Cal P w K mg base 3 "farthest" spFarthest []) : C8.Cal P w K mg base 23 "_law_pebbles_right" spPebRight [] := by
  refine mk_cal (x := "_law_pebbles_right") (i := 71) (j := 55) T rfl scLawPebblesRight (fun _ _ _ _ _ _ us hl => match us, hl with | [_], _ => rfl) (fun vs H Q E h => ?_) (fun f cdv A outer s H vs Q E hr h => ?_)
  · obtain ⟨a, b, d, Ms, R, _, _, h, _⟩ := h
    exact (paired_len h).trans rfl
  obtain ⟨a, b, d, Ms, R, wf, mu, ha, q⟩ := h
  refine ⟨_, (pss_cons (ps_asg (pe_tup (pa_cons (pe_op op_add pe_int (C8.pe_c c_law_draw hr (by decide) rfl (pa_cons (pv 0) (pa_cons pe_int pa_nil)))) (pa_cons (pe_op op_add pe_int (C8.pe_c c_law_draw hr (by decide) rfl (pa_cons (pv 0) (pa_cons pe_int pa_nil)))) pa_nil))) (k_pg_tup K (n := 2) rfl (pgs_cons (pg_name (i := 7) scLawPebblesRight.nd rfl (by first | exact Or.inl rfl | exact Or.inr rfl)) (pgs_cons (pg_name (i := 8) scLawPebblesRight.nd rfl (by first | exact Or.inl rfl | exact Or.inr rfl)) pgs_nil))))
      (pss_cons (ps_set (i := 1) scLawPebblesRight.nd rfl (by first | exact Or.inl rfl | exact Or.inr rfl) (pe_op op_add (pe_op op_add (pe_callB (call_max2 rfl) (by rfl) T.b_max b_max (pa_cons (C8.pe_c c_pebbles_needed hr (by decide) rfl (pa_cons (pv 7) pa_nil)) (pa_cons (C8.pe_c c_pebbles_needed hr (by decide) rfl (pa_cons (pv 8) pa_nil)) pa_nil))) pe_int) (C8.pe_c c_law_draw hr (by decide) rfl (pa_cons (pv 0) (pa_cons pe_int pa_nil)))))
      (pss_cons (ps_set (i := 2) scLawPebblesRight.nd rfl (by first | exact Or.inl rfl | exact Or.inr rfl) (C8.pe_c c_pebble_way hr (by decide) rfl (pa_cons (pv 7) (pa_cons (pv 1) pa_nil))))
      (pss_cons (ps_set (i := 3) scLawPebblesRight.nd rfl (by first | exact Or.inl rfl | exact Or.inr rfl) (pe_callTy (k_tupof K) (by rfl) T.b_tuple b_tuple (pa_cons (pe_lc (own := [("_law_spot", 10)]) rfl scLawPebblesRight.nd (k_pi_tup K (C8.pe_c c_pebble_way hr (by decide) rfl (pa_cons (pv 8) (pa_cons (pe_op op_sub (pv 1) pe_int) pa_nil)))) (blkOk_by (own := [("_law_spot", 10)]) (N := nLawPebblesRight) (sc := defScope sLawPebblesRight) (by decide +kernel)) (fun _ _ _ _ _ => (pg_name (i := 10) scLawPebblesRight.nd rfl (by first | exact Or.inl rfl | exact Or.inr rfl))) (fun _ _ _ _ _ => pts_nil) (fun _ _ _ _ _ => (pe_op op_add (pv 7) (pv 10)))) pa_nil)))
      (pss_cons (ps_set (i := 4) scLawPebblesRight.nd rfl (by first | exact Or.inl rfl | exact Or.inr rfl) (pe_revT K (C8.pe_c c_pebble_way hr (by decide) rfl (pa_cons (pv 7) (pa_cons (pe_op op_sub (pv 1) pe_int) pa_nil)))))
      (pss_cons (ps_if (PW.pt (pw_or (pt_not (pt_val (C8.pe_c c_is_way hr (by decide) rfl (pa_cons (pe_op op_add (pv 7) (pv 8)) (pa_cons (pv 1) (pa_cons (pe_op (k_catA K) (pe_op (k_catA K) (pv 2) (pv 3)) (pv 4)) pa_nil)))))) (pw_or1 (pt_val (C8.pe_c c_is_way hr (by decide) rfl (pa_cons (pv 7) (pa_cons (pv 1) (pa_cons (pe_op (k_catA K) (pv 2) (pe_revT K (pv 2))) pa_nil)))))))) (pss_one (ps_ret pe_bl)) pss_nil)
      (pss_cons (ps_if (PW.pt (pw_or (pt_not (pt_val (C8.pe_c c_is_way hr (by decide) rfl (pa_cons (pv 7) (pa_cons (pv 1) (pa_cons (pe_op (k_catA K) (pe_op (k_catA K) (pv 2) (pe_revT K (pv 2))) (pv 2)) pa_nil)))))) (pw_or1 (pt_not (pt_val (C8.pe_c c_is_way hr (by decide) rfl (pa_cons (pv 7) (pa_cons (pe_op op_add (pv 1) pe_int) (pa_cons (pv 2) pa_nil))))))))) (pss_one (ps_ret pe_bl)) pss_nil)
      (pss_cons (ps_set (i := 5) scLawPebblesRight.nd rfl (by first | exact Or.inl rfl | exact Or.inr rfl) (C8.pe_c c_acts_needed hr (by decide) rfl (pa_cons (pe_op op_add (pv 7) (pv 8)) (pa_cons (pv 1) pa_nil))))
      (pss_cons (ps_if (PW.pt (pw_or (pt_cmpR op_gt (pv 5) (pe_callB (k_len K) (by rfl) T.b_len b_len (pa_cons (pe_op (k_catA K) (pe_op (k_catA K) (pv 2) (pv 3)) (pv 4)) pa_nil)) (nomark _)) (pw_or (pt_cmpR op_ne (pe_op op_mod (pv 5) pe_int) pe_int (nomark _)) (pw_or1 (pt_cmpR op_lt (pv 5) (pe_op op_add (C8.pe_c c_acts_needed hr (by decide) rfl (pa_cons (pv 7) (pa_cons (pv 1) pa_nil))) (pe_op op_mul pe_int (pv 8))) (nomark _)))))) (pss_one (ps_ret pe_bl)) pss_nil)
      (pss_cons (ps_setLc (i := 6) (own := [("_law_own", 9)]) rfl scLawPebblesRight.nd rfl rfl (sw_true rfl rfl rfl (by decide +kernel)) (pi_range2 rfl T.b_range (pa_cons (C8.pe_c c_pebbles_needed hr (by decide) rfl (pa_cons (pv 7) pa_nil)) (pa_cons (pe_op op_add (pv 1) pe_int) pa_nil))) (blkOk_by (own := [("_law_own", 9)]) (N := nLawPebblesRight) (sc := defScope sLawPebblesRight) (by decide +kernel)) (fun _ _ _ _ _ => (pg_name (i := 9) scLawPebblesRight.nd rfl (by first | exact Or.inl rfl | exact Or.inr rfl))) (fun _ _ _ _ _ => pts_nil) (fun _ _ _ _ _ => (C8.pe_c c_acts_needed hr (by decide) rfl (pa_cons (pv 7) (pa_cons (pv 9) pa_nil)))))
      (pss_cons (ps_if (PW.pt (pw_or (pt_cmpR (k_neD K hr.units) (pv 6) (k_revL K (pe_callB (k_sorted K) (by rfl) T.b_sorted b_sorted (pa_cons (pv 6) pa_nil))) (nomark _)) (pw_or1 (PW.pt (pw_and (pt_cmpR op_gt (pv 7) pe_int (nomark _)) (pw_and1 (pt_cmpR op_notN (C8.pe_c c_acts_needed hr (by decide) rfl (pa_cons (pv 7) (pa_cons (pe_op op_sub (C8.pe_c c_pebbles_needed hr (by decide) rfl (pa_cons (pv 7) pa_nil)) pe_int) pa_nil))) pe_non (nomark _)))))))) (pss_one (ps_ret pe_bl)) pss_nil)
      (pss_one (ps_ret (pe_and (pe_cmpR op_ge (C8.pe_c c_farthest hr (by decide) rfl (pa_cons (pv 1) (pa_cons (pv 5) pa_nil))) (pe_op op_add (pv 7) (pv 8)) (nomark _)) (pe_one (pe_cmpR op_le (C8.pe_c c_acts_needed hr (by decide) rfl (pa_cons (C8.pe_c c_farthest hr (by decide) rfl (pa_cons (pv 1) (pa_cons (pv 5) pa_nil))) (pa_cons (pv 1) pa_nil))) (pv 5) (nomark _))))))))))))))))), ?_⟩
  refine go_startK wf mu ha ?_
  refine go_seq (go_tup2 (A := inA fun i => 1 ≤ i ∧ i ≤ 20) (B := inA fun i => 1 ≤ i ∧ i ≤ 20) (ea_cons (ev_addX (P1 := fun i => i = 1) ((ev_int (i := 1)).inA rfl) (ev_draw (many := 20) (ev_var (by rfl)) ev_int (by decide) (by decide)) fun i j h1 h2 => by omega) (ea_cons (ev_addX (P1 := fun i => i = 1) ((ev_int (i := 1)).inA rfl) (ev_draw (many := 20) (ev_var (by rfl)) ev_int (by decide) (by decide)) fun i j h1 h2 => by omega) ea_nil)) ?_)
  dsimp only
  refine go_openX 7 (by rfl) fun s' hs => go_openX 8 (by rfl) fun f' hf => ?_
  obtain ⟨s, rfl⟩ := Int.eq_ofNat_of_zero_le (a := s') (by omega)
  obtain ⟨f, rfl⟩ := Int.eq_ofNat_of_zero_le (a := f') (by omega)
  refine go_seq (go_asgX (P := fun e : Nat => e < 3) (F := fun e : Nat => dp (.int ((max (pebN s) (pebN f) + 1 + e : Nat) : Int))) (Ev.le (ev_addX (P := fun i => ∃ e : Nat, e < 3 ∧ i = ((max (pebN s) (pebN f) + 1 + e : Nat) : Int)) (P1 := fun i => i = max (pebN s : Int) (pebN f : Int) + 1) ((ev_add (ev_max2 (ev_pebN (s := s) (ev_var (by rfl)) (by omega)) (ev_pebN (s := f) (ev_var (by rfl)) (by omega))) (ev_int (i := 1))).inA rfl) (ev_draw (many := 3) (ev_var (by rfl)) ev_int (by decide) (by decide)) fun i j h1 h2 => ⟨j.toNat, by omega, by omega⟩) fun R v ⟨i, ⟨e, he, hi⟩, h⟩ => ⟨e, he, by subst hi; exact h⟩) fun e he => ?_)
  have pb := peb_all (s := s) (f := f) (d := e) (by omega) (by omega) (by omega) (by omega) he
  generalize max (pebN s) (pebN f) + 1 + e = p at pb ⊢
  dsimp only
  have p2 := pb.p2
  have p9 := pb.p9
  have hp1 : ((p : Int) - 1) = ((p - 1 : Nat) : Int) := by omega
  refine go_seq (go_asg (ev_way (s := s) (p := p) (ev_var (by rfl)) (ev_var (by rfl)) pb.w1) ?_)
  dsimp only
  refine go_seq (go_asg (A := dp (.tuple (natsD ((wayOf f (p - 1)).map fun x => s + x)))) ((ev_tupleOf (Ev.ls (EvL.ev (el_map (wayOf f (p - 1)) (fun n : Nat => .int (n : Int)) (fun x => .int ((s : Int) + (x : Int))) (ei_tup (ev_way (s := f) (p := p - 1) (ev_var (by rfl)) ((ev_sub (ev_var (A := dp (.int (p : Int))) (by rfl)) (ev_int (i := 1))).to (by rw [hp1])) pb.w2)) (fun _ _ => tg_name) (fun x hx => ev_add (ev_var (by rfl)) (ev_var (by rfl))) (by have := pb.l2; omega) (by decide))))).to (by
    unfold natsD
    rw [List.map_map] <;> rfl)) ?_)
  dsimp only
  refine go_seq (go_asg (A := dp (.tuple (natsD (wayOf s (p - 1)).reverse))) (ev_revN (ev_way (s := s) (p := p - 1) (ev_var (by rfl)) ((ev_sub (ev_var (A := dp (.int (p : Int))) (by rfl)) (ev_int (i := 1))).to (by rw [hp1])) pb.w3)) ?_)
  dsimp only
  have l1 := pb.l1
  have l2 := pb.l2
  have l3 := pb.l3
  have s1 := pb.s1
  have f1 := pb.f1
  have s20 := pb.s20
  have f20 := pb.f20
  have hall : ∀ x ∈ wayOf s p ++ ((wayOf f (p - 1)).map fun x => s + x) ++ (wayOf s (p - 1)).reverse, 1 ≤ x ∧ x ≤ s + f := fun x hx => by
    rcases List.mem_append.mp hx with hx | hx
    · rcases List.mem_append.mp hx with hx | hx
      · have := pb.in1 x hx
        omega
      · obtain ⟨y, hy, rfl⟩ := List.mem_map.mp hx
        have := pb.in2 y hy
        omega
    · have := pb.in3 x (List.mem_reverse.mp hx)
      omega
  have hback : ∀ x ∈ wayOf s p ++ (wayOf s p).reverse, 1 ≤ x ∧ x ≤ s := fun x hx => by
    rcases List.mem_append.mp hx with hx | hx
    · exact pb.in1 x hx
    · exact pb.in1 x (List.mem_reverse.mp hx)
  have hbb : ∀ x ∈ wayOf s p ++ (wayOf s p).reverse ++ wayOf s p, 1 ≤ x ∧ x ≤ s := fun x hx => by
    rcases List.mem_append.mp hx with hx | hx
    · exact hback x hx
    · exact pb.in1 x hx
  refine go_seq (go_ifF (et_or (et_not (et_test (ev_isWay (n := s + f) (p := p) (ev_add (i := (s : Int)) (j := (f : Int)) (ev_var (by rfl)) (ev_var (by rfl))) (ev_var (by rfl)) (ev_catN (ev_catN (ev_var (by rfl)) (ev_var (by rfl)) (by rw [List.length_map]; omega)) (ev_var (by rfl)) (by rw [List.length_append, List.length_map, List.length_reverse]; omega)) (by omega) (by rw [List.length_append, List.length_append, List.length_map, List.length_reverse]; omega) hall)))
    (fun _ => et_test (ev_isWay (n := s) (p := p) (ev_var (by rfl)) (ev_var (by rfl)) (ev_catN (ev_var (by rfl)) (ev_revN (ev_var (by rfl))) (by rw [List.length_reverse]; omega)) (by omega) (by rw [List.length_append, List.length_reverse]; omega) hback))) (by rw [pb.i1, pb.i2]; rfl) (go_next ?_))
  refine go_seq (go_ifF (et_or (et_not (et_test (ev_isWay (n := s) (p := p) (ev_var (by rfl)) (ev_var (by rfl)) (ev_catN (ev_catN (ev_var (by rfl)) (ev_revN (ev_var (by rfl))) (by rw [List.length_reverse]; omega)) (ev_var (by rfl)) (by rw [List.length_append, List.length_reverse]; omega)) (by omega) (by rw [List.length_append, List.length_append, List.length_reverse]; omega) hbb)))
    (fun _ => et_not (et_test (ev_isWay (n := s) (p := p + 1) (ev_var (by rfl)) (ev_add (i := (p : Int)) (j := 1) (ev_var (by rfl)) ev_int) (ev_var (by rfl)) (by omega) (by omega) pb.in1)))) (by rw [pb.i3, pb.i4]; rfl) (go_next ?_))
  refine go_seq (go_asg (A := dp (.int (aT (s + f) p : Int))) ((ev_acts (s := s + f) (p := p) (ev_add (i := (s : Int)) (j := (f : Int)) (ev_var (by rfl)) (ev_var (by rfl))) (ev_var (by rfl)) (by omega) (by omega) (by omega)).to (by rw [pb.m])) ?_)
  dsimp only
  have eA : Ev (deckK a b d) Ms [some (valA (.ref a)), some (dp (.int (p : Int))), some (dp (.tuple (natsD (wayOf s p)))), some (dp (.tuple (natsD ((wayOf f (p - 1)).map fun x => s + x)))), some (dp (.tuple (natsD (wayOf s (p - 1)).reverse))), some (dp (.int (aT (s + f) p : Int))), none, some (dp (.int (s : Int))), some (dp (.int (f : Int))), none, none] (tCall spActsNeeded [] E (tCons (tVar 7) (tCons (tVar 1) tNil))) (dp (.int (aT s p : Int))) := (ev_acts (s := s) (p := p) (ev_var (by rfl)) (ev_var (by rfl)) (by omega) (by omega) (by omega)).to (by rw [pb.a])
  refine go_seq (go_ifF (et_or (et_B (ev_gt (ev_var (by rfl)) (ev_len (Ev.sqT (ev_catN (ev_catN (ev_var (by rfl)) (ev_var (by rfl)) (by rw [List.length_map]; omega)) (ev_var (by rfl)) (by rw [List.length_append, List.length_map, List.length_reverse]; omega)))))) (fun _ => et_or (et_B (ev_nei (ev_mod (ev_var (by rfl)) (ev_int (i := 2)) (by decide)) (ev_int (i := 1)))) (fun _ => et_B (ev_lt (ev_var (by rfl)) (ev_add eA (ev_mul (ev_int (i := 2)) (ev_var (A := dp (.int (f : Int))) (by rfl)) (Or.inl (by decide)))))))) ?_ (go_next ?_))
  · have m1 := pb.m1
    have m2 := pb.m2
    have m3 := pb.m3
    rw [natsD_len]
    simp only [Bool.or_eq_false_iff, decide_eq_false_iff_not, Bool.not_eq_false', decide_eq_true_eq]
    omega
  have nd1 := pb.nd1
  have nd6 := pb.nd6
  have nd7 := pb.nd7
  obtain ⟨rw_, hrw⟩ : ∃ l : List Nat, l = (List.range (p + 3 - pebN s)).map fun i => aT s (pebN s + i) := ⟨_, rfl⟩
  have rlen : rw_.length = p + 3 - pebN s := by rw [hrw]; simp
  have rfall : rw_.Pairwise (· ≥ ·) := by
    rw [hrw]
    refine List.pairwise_map.mpr ?_
    have key : ∀ j i, i ≤ j → pebN s + j < p + 3 → aT s (pebN s + j) ≤ aT s (pebN s + i) := by
      intro j
      induction j with
      | zero => intro i hi _; obtain rfl : i = 0 := by omega
                exact Nat.le_refl _
      | succ j ih =>
        intro i hi hj
        by_cases e : i = j + 1
        · rw [e]
          exact Nat.le_refl _
        · exact Nat.le_trans (pb.fall (pebN s + j) (by omega) (by omega)) (ih i (by omega) (by omega))
    refine List.Pairwise.imp_of_mem (fun {i j} hi hj hij => ?_) (List.pairwise_lt_range (n := p + 3 - pebN s))
    exact key j i (by omega) (by have := List.mem_range.mp hj; omega)
  refine go_seq (go_asg (A := dp (.list (natsD rw_))) ((EvL.ev (el_map (List.range (p + 3 - pebN s)) (fun i : Nat => .int ((pebN s : Int) + (i : Int))) (fun i => .int (aT s (pebN s + i) : Int)) ((ei_r2 (ev_pebN (s := s) (ev_var (by rfl)) (by omega)) (ev_add (ev_var (A := dp (.int (p : Int))) (by rfl)) (ev_int (i := 3))) (by omega) (by omega)).to (by
    unfold rgD
    rw [show ((p : Int) + 3 - (pebN s : Int)).toNat = p + 3 - pebN s by omega])) (fun _ _ => tg_name) (fun i hi => (ev_acts (s := s) (p := pebN s + i) (ev_var (by rfl)) (ev_var (by rfl)) (by omega) (by omega) (by have := List.mem_range.mp hi; omega)).to (by rw [pb.rows _ (by omega) (by have := List.mem_range.mp hi; omega)])) (by rw [List.length_range]; omega) (by decide))).to (by
    rw [hrw]
    unfold natsD
    rw [List.map_map] <;> rfl)) ?_)
  have erev : intsD (nI rw_.reverse).reverse = natsD rw_ := by
    unfold nI
    rw [← List.map_reverse, List.reverse_reverse]
    exact (natsD_nI rw_).symm
  refine go_seq (go_ifF (et_or (et_B (ev_neD (d := .list (natsD rw_)) (e := .list (natsD rw_)) (ev_var (by rfl)) ((EvL.ev (el_revL (Ev.ls (EvL.ev (el_sorted (Ms' := []) (ns := nI rw_) (ms := nI rw_.reverse) (Ev.ls ((ev_var (A := dp (.list (natsD rw_))) (by rfl)).to (by rw [natsD_nI]))) (by rw [nI_len, rlen]; omega) ((List.reverse_perm _).map _) (by
      unfold nI
      rw [List.pairwise_map, List.pairwise_reverse]
      exact rfall.imp fun h => by omega)))))).to (by rw [← erev]; unfold intsD; rw [List.map_reverse])) (by rw [natsD_nI]; exact shaped_lst _) (by rw [natsD_nI]; exact shaped_lst _))) (fun _ => et_and (b := false) (et_B (ev_gt (ev_var (A := dp (.int (s : Int))) (by rfl)) (ev_int (i := 1)))) (fun hs1 => et_B ((ev_notN (d := .none) (x := .non) ((ev_acts (s := s) (p := pebN s - 1) (ev_var (by rfl)) ((ev_sub (ev_pebN (s := s) (ev_var (by rfl)) (by omega)) (ev_int (i := 1))).to (by congr 1; omega)) (by omega) (by omega) (by omega)).to (pb.few (by have := of_decide_eq_true hs1; omega))) (by rfl)).to (by rfl))))) ?_ (go_next ?_))
  · rw [natsD_nI, eqv_lst]
    simp
  have g1 := pb.g1
  have g60 := pb.g60
  have g2 := pb.g2
  refine go_ret (by exact q) ((ev_andV (ev_ge (i := (farN p (aT (s + f) p) : Int)) (ev_farN (p := p) (a := aT (s + f) p) (ev_var (by rfl)) (ev_var (by rfl)) (by omega) (by omega)) (ev_add (ev_var (A := dp (.int (s : Int))) (by rfl)) (ev_var (A := dp (.int (f : Int))) (by rfl)))) (fun _ => ev_le (i := (aT (farN p (aT (s + f) p)) p : Int)) ((ev_acts (s := farN p (aT (s + f) p)) (p := p) (ev_farN (p := p) (a := aT (s + f) p) (ev_var (by rfl)) (ev_var (by rfl)) (by omega) (by omega)) (ev_var (by rfl)) (by omega) (by omega) (by omega)).to (by rw [pb.g])) (ev_var (A := dp (.int (aT (s + f) p : Int))) (by rfl)))).to ?_)
  have c1 : ((farN p (aT (s + f) p) : Nat) : Int) ≥ (s : Int) + (f : Int) := by omega
  have c2 : ((aT (farN p (aT (s + f) p)) p : Nat) : Int) ≤ (aT (s + f) p : Int) := by omega
  rw [decide_eq_true c1, decide_eq_true c2]
  rfl
end
end Rb
end
section
set_option Elab.async false
set_option linter.all false
set_option autoImplicit false
set_option maxRecDepth 100000
set_option maxHeartbeats 4000000
set_option exponentiation.threshold 500000
namespace Rb
open PySem PySem.Spec PyProof.Rows L2
/-! ### plain: how great the numbers become -/
theorem sum_le (l : List Nat) (c : Nat) (h : ∀ x ∈ l, x ≤ c) : l.sum ≤ l.length * c := by
  induction l with
  | nil => simp
  | cons x l ih =>
    rw [List.sum_cons, List.length_cons, Nat.add_mul, Nat.one_mul]
    have := h x List.mem_cons_self
    have := ih fun y hy => h y (List.mem_cons_of_mem _ hy)
    omega
theorem countF_le {r : Row} {most : Nat} : ∀ (k : Nat) (l : List Nat), l.length ≤ 12 → countF r most k l ≤ 12 ^ k
  | 0, _, _ => Nat.le_refl _
  | k + 1, l, hl => by
    show (if (heldOf r l).length ≤ most then _ else 0) ≤ _
    split
    · refine Nat.le_trans (sum_le _ (12 ^ k) fun y hy => ?_) ?_
      · obtain ⟨x, _, rfl⟩ := List.mem_map.mp hy
        exact countF_le k _ (Nat.le_trans (List.length_filter_le _ _) hl)
      · rw [List.length_map, Nat.pow_succ, Nat.mul_comm (12 ^ k)]
        exact Nat.mul_le_mul_right _ (Nat.le_trans (List.length_filter_le _ _) hl)
    · exact Nat.zero_le _
theorem countOf_le {r : Row} {most : Nat} {l : List Nat} (hl : l.length ≤ 12) : countOf r most l ≤ 12 ^ 12 :=
  Nat.le_trans (countF_le _ l hl) (Nat.pow_le_pow_right (by decide) hl)
theorem chN_le : ∀ n k, chN n k ≤ 2 ^ n
  | 0, 0 => Nat.le_refl _
  | 0, k + 1 => Nat.zero_le _
  | n + 1, 0 => Nat.one_le_two_pow
  | n + 1, k + 1 => by
    show chN n k + chN n (k + 1) ≤ _
    have := chN_le n k
    have := chN_le n (k + 1)
    rw [Nat.pow_succ]
    omega
theorem chF_chN (m : Nat) : ∀ k, k ≤ m → chF m k = (chN m k : Int)
  | 0, _ => by
    have e : chN m 0 = 1 := by cases m <;> rfl
    rw [e]
    rfl
  | k + 1, h => by
    have hs := chN_step m k
    have e : (chN m k : Int) * ((m : Int) - (k : Int)) = (chN m (k + 1) : Int) * ((k : Int) + 1) := by
      have : (((k + 1) * chN m (k + 1) + k * chN m k : Nat) : Int) = ((m * chN m k : Nat) : Int) := by rw [hs]
      simp only [Int.natCast_add, Int.natCast_mul] at this
      rw [Int.mul_sub, Int.mul_comm (chN m (k + 1) : Int), Int.mul_comm (chN m k : Int), Int.mul_comm (chN m k : Int)]
      have e1 : ((1 : Nat) : Int) = 1 := rfl
      rw [e1] at this
      omega
    show chF m k * ((m : Int) - (k : Int)) / ((k : Int) + 1) = _
    rw [chF_chN m k (by omega), e, Int.mul_ediv_cancel _ (by omega)]
def bigB (k : Nat) : Nat := 2 ^ (67 * 2 ^ k)
theorem bigB_succ (k : Nat) : bigB (k + 1) = bigB k * bigB k := by
  unfold bigB
  rw [← Nat.pow_add]
  congr 1
  rw [Nat.pow_succ]
  omega
theorem bigB_le (k : Nat) : 10 ^ 20 ≤ bigB k := by
  unfold bigB
  refine Nat.le_trans (show 10 ^ 20 ≤ 2 ^ 67 by decide) (Nat.pow_le_pow_right (by decide) ?_)
  have : 1 ≤ 2 ^ k := Nat.one_le_two_pow
  omega
theorem small_pt {r : Row} {pt : List Int} (hc : ∀ (i : Nat) (s : Stp), r.steps[i]? = some s → ∀ c : Int, s = .st c → c.natAbs ≤ 4) (hp : ∀ x ∈ pt, x.natAbs ≤ 10 ^ 20) (hl : r.steps.length ≤ 12) : SmallPt r pt := by
  have key : ∀ k, k ≤ r.steps.length → ∀ v ∈ valuesOf (r.steps.take k) pt, v.natAbs ≤ bigB k := by
    intro k
    induction k with
    | zero =>
      intro _ v hv
      rw [List.take_zero] at hv
      cases hv
    | succ k ih =>
      intro hk v hv
      have hx : r.steps[k]? = some r.steps[k] := List.getElem?_eq_getElem hk
      rw [take_snoc hx, valuesOf_snoc] at hv
      have ih := ih (by omega)
      have h10 := bigB_le k
      have hm : bigB k ≤ bigB k * bigB k := Nat.le_mul_of_pos_left _ (by omega)
      have h2 : 2 * bigB k ≤ bigB k * bigB k := Nat.mul_le_mul_right _ (by omega)
      have hg : ∀ i, ((valuesOf (r.steps.take k) pt).getD i 0).natAbs ≤ bigB k := fun i => by
        rw [List.getD_eq_getElem?_getD]
        cases e : (valuesOf (r.steps.take k) pt)[i]? with
        | none => exact Nat.zero_le _
        | some y => exact ih y (List.mem_of_getElem? e)
      rw [bigB_succ]
      rcases List.mem_append.mp hv with hv | hv
      · exact Nat.le_trans (ih v hv) hm
      · rw [List.mem_singleton.mp hv]
        have hcc := hc k _ hx
        cases e : r.steps[k] with
        | inn i =>
          show (pt.getD i 0).natAbs ≤ _
          rw [List.getD_eq_getElem?_getD]
          cases e : pt[i]? with
          | none => exact Nat.zero_le _
          | some y =>
            have := hp y (List.mem_of_getElem? e)
            show y.natAbs ≤ _
            omega
        | st c =>
          have := hcc c e
          show c.natAbs ≤ _
          omega
        | neg i =>
          have := hg i
          show (0 - (valuesOf (r.steps.take k) pt).getD i 0).natAbs ≤ _
          omega
        | add i j =>
          have := hg i
          have := hg j
          show ((valuesOf (r.steps.take k) pt).getD i 0 + (valuesOf (r.steps.take k) pt).getD j 0).natAbs ≤ _
          omega
        | sub i j =>
          have := hg i
          have := hg j
          show ((valuesOf (r.steps.take k) pt).getD i 0 - (valuesOf (r.steps.take k) pt).getD j 0).natAbs ≤ _
          omega
        | mul i j =>
          show ((valuesOf (r.steps.take k) pt).getD i 0 * (valuesOf (r.steps.take k) pt).getD j 0).natAbs ≤ _
          rw [Int.natAbs_mul]
          exact Nat.mul_le_mul (hg i) (hg j)
  have fin : ∀ k, k ≤ r.steps.length → Small (valuesOf (r.steps.take k) pt) := fun k hk v hv => by
    refine Nat.lt_of_le_of_lt (key k hk v hv) ?_
    unfold bigB
    refine Nat.pow_lt_pow_right (by decide) ?_
    have : 2 ^ k ≤ 2 ^ 12 := Nat.pow_le_pow_right (by decide) (by omega)
    omega
  intro k
  by_cases hk : k ≤ r.steps.length
  · exact fin k hk
  · have := fin r.steps.length (Nat.le_refl _)
    rw [List.take_of_length_le (by omega)]
    rwa [List.take_length] at this
theorem last_nums {r : Row} (ok : r.Ok) {o : List Nat} (io : IsOrd r o) : ∃ ds, natsD (heldNums r o) = ds ++ [PyData.int ((setN r.ends).length : Int)] := by
  have hne := ordL_ne ok io
  have hl : 0 < o.length := List.length_pos_iff.mpr hne
  obtain ⟨n, hn⟩ : ∃ n, o.length = n + 1 := ⟨o.length - 1, by omega⟩
  unfold heldNums heldRows natsD
  rw [hn, List.range_succ, List.map_append, List.map_append, List.map_append]
  refine ⟨List.map (fun n : Nat => PyData.int (n : Int)) (List.map List.length (List.map (fun t => heldOf r (List.take (t + 1) o)) (List.range n))), ?_⟩
  congr 1
  show [PyData.int ((heldOf r (List.take (n + 1) o)).length : Int)] = _
  rw [← hn, List.take_length, last_held ok io]
section
variable {c : Kx} {H0 R0 : Hp} {Ms : MS} {As : AS} {ta tb te : TE} {A B : Asr} {K : PySem.W.Frag} {D : Ends} {E : XK} {ι : Type} {P : ι → Prop}
/-- the second argument is one of some -/
theorem ev_call2X {sp : Sp} {F : ι → Asr} {r : Asr} (ha : Ev c Ms As ta A) (hb : Ev c Ms As tb (exA P F)) (hs : ∀ i, P i → ∀ vs H Q, Pu Ms [A, F i] r vs H Q → sp vs H Q E) : Ev c Ms As (tCall sp [] E (tCons ta (tCons tb tNil))) r :=
  ev_call (ea_cons ha (ea_cons hb ea_nil)) fun vs H Q h => by
    obtain ⟨R, wf, mu, hh, q⟩ := h
    cases hh with
    | cons a hh =>
      cases hh with
      | cons b hh =>
        cases hh
        obtain ⟨i, hi, b⟩ := b
        exact hs i hi _ H Q ⟨R, wf, mu, .cons a (.cons b .nil), q⟩
/-- a list of one thing that is one of some, as one's own -/
theorem go_ownX {d : ι → PyData} {j : Nat} (h : Ev c Ms As te (exA P fun i => dp (d i))) (k : ∀ i p, P i → H0 p = none → Go c H0 R0 ((p, .lst [d i]) :: Ms) (As.set j (some (valA (.ref p)))) D.nx) : Go c H0 R0 Ms As (tAsg (tLst (tCons te tNil)) (gName j) D) := fun σ H R g s =>
  h.bind s fun v H1 R1 g1 s1 ⟨i, hP, a⟩ => by
    refine ⟨by show 1 ≤ sizeLine; decide, fun p hp => ?_⟩
    have s' := s1.own (.lay g1.wf hp) hp (g1.wf.none hp) (m := .lst [d i]) ⟨_, upd_same, .cons a .nil⟩
    exact k i p hP ((g.trans' g1).back hp) _ _ R1 ((g.trans' g1).trans' (.lay g1.wf hp)) ⟨s'.wf, s'.mu, s'.sl.set j rfl⟩
/-- the deck is laid: from here on draws may be -/
theorem go_deck {H0 R0 : Hp} {ns : List Int} {j i : Nat} (hi : As[i]? = some (some (scA K ns))) (hl : ns.length ≤ 100)
    (k : ∀ a b d H R, Wf (deckK a b d) H R → Go (deckK a b d) H R [] (As.set j (some (valA (.ref a)))) D.nx) : Go pu H0 R0 [] As (tAsg (tCall (spDeck K) [] E (tCons (tVar i) tNil)) (gName j) D) := fun σ H R g s => by
  obtain ⟨v, h1, h2⟩ := s.sl.at_ i _ hi
  refine ⟨v, h1, ?_⟩
  show spDeck K ([v] ++ []) H (fun x H1 => gName j x σ H1 D.nx) E
  rw [List.append_nil]
  refine ⟨[], R, ns, g.wf, s.mu, .cons h2 .nil, hl, fun a b d H' R' g' jd ha hb hd => ?_⟩
  have w : Wf (deckK a b d) H' R' := ⟨g'.wf.sub, fun x hx => by
    have hx : x = a ∨ x = b ∨ x = d := by simpa [deckK] using hx
    rcases hx with rfl | rfl | rfl
    · exact ha
    · exact hb
    · exact hd, jd⟩
  exact k a b d H' R' w _ H' R' (.refl w) ⟨w, ⟨List.nodup_nil, fun e he => (List.not_mem_nil he).elim, fun e he => (List.not_mem_nil he).elim, fun e he => (List.not_mem_nil he).elim⟩, (s.sl.mono g'.rr).set j rfl⟩
theorem ev_drawN {a b d : Addr} {tx : TE} {many : Nat} (hx : Ev (deckK a b d) Ms As tx (valA (.ref a))) (h : Ev (deckK a b d) Ms As te (dp (.int (many : Int)))) (h0 : 0 < many) (h1 : many ≤ 100000) : Ev (deckK a b d) Ms As (tCall spDraw [] E (tCons tx (tCons te tNil))) (exA (fun n : Nat => n < many) fun n => dp (.int (n : Int))) :=
  (ev_draw hx h h0 h1).le fun R v ⟨i, hi, a⟩ => by
    obtain ⟨n, rfl⟩ := Int.eq_ofNat_of_zero_le hi.1
    exact ⟨n, by omega, a⟩
theorem ev_orders {r : Row} {i : Nat} (h : As[i]? = some (some (dp (encR r)))) (ok : r.Ok) (hl : (needed r).length ≤ 12) : Ev c Ms As (tCall spOrdersCounted [] E (tCons (tVar i) tNil)) (dp (.int (countOf r 12 (needed r) : Int))) :=
  ev_call (ea_cons (ev_var h) ea_nil) (fun vs H Q h => ⟨_, r, ok, hl, h⟩)
theorem ev_least {r : Row} {i : Nat} (h : As[i]? = some (some (dp (encR r)))) (ok : r.Ok) (he : r.ends.length ≤ 60) (hl : (needed r).length ≤ 12) : Ev c Ms As (tCall spLeastLoad [] E (tCons (tVar i) tNil)) (dp (.int (leastLoad r : Int))) :=
  ev_call (ea_cons (ev_var h) ea_nil) (fun vs H Q h => ⟨_, r, ok, he, hl, h⟩)
theorem ev_best {r : Row} {i : Nat} (h : As[i]? = some (some (dp (encR r)))) (ok : r.Ok) (hs : r.steps.length ≤ 25) (he : r.ends.length ≤ 60) (hl : (needed r).length ≤ 12) : Ev c Ms As (tCall spBestOrder [] E (tCons (tVar i) tNil)) (bestOrdA r) :=
  ev_call (ea_cons (ev_var h) ea_nil) (fun vs H Q h => ⟨_, r, ok, hs, he, hl, h⟩)
end
end Rb
end
section
set_option Elab.async false
set_option linter.all false
set_option autoImplicit false
set_option maxRecDepth 100000
set_option maxHeartbeats 4000000
set_option exponentiation.threshold 500000
namespace Rb
open PySem PySem.Spec PyProof.Rows L2
section
variable {P : Program} {w : World} {K : PySem.W.Frag} {mg : Str → Option Value} {base : Heap}
abbrev sLaw : Stmt := topS 73
abbrev nLaw : List Str := ["_law_script", "_law_deck_here", "_law_turn", "_law_row_here", "_law_other", "_law_point_here", "_law_some", "_law_order_here", "_law_both", "_law_many", "_law_more", "_law_due"]
theorem scLaw : FnScope nLaw ["_law_script"] (defScope sLaw) := ⟨rfl, rfl, rfl, by decide +kernel, rfl, by decide +kernel, by decide +kernel⟩
theorem mk_fn {x : Str} {i k : Nat} {N ps : List Str} {sp : Sp} {f : Addr} {fd : FuncData} (F : FunD K x x (defArgs (topS i)) (defBody (topS i)) (defScope (topS i)) [] [] f fd) (S : FnScope N ps (defScope (topS i)))
    (len : ∀ vs H Q E, sp vs H Q E → vs.length = ps.length)
    (hbody : ∀ (f : Addr) (cdv : Value) (A : Around) (outer : List Env) (s : Shared) (H : Hp) (vs : List V) (Q : VK) (E : XK), Room k (A.deeper (envOfC x (defScope (topS i)) s.heap.objs.size f cdv)) → sp vs H Q E →
      ∃ t, PSs (cxOf CX0 P w K mg base N x (defScope (topS i)) f cdv A outer s H E).nox (defBody (topS i)) t ∧ t { nx := fun _ H' => Q .non H', rt := Q } (L2.start N vs) H) : FnOk P w K mg base CX0 (k + 1) f fd ps sp :=
  F.ok S len fun cdv A outer s H vs Q E hr hsp => by
    obtain ⟨t, h, q⟩ := hbody f cdv A outer s H vs Q E hr hsp
    exact ⟨t, h.nox, q⟩
def spLaw (K : PySem.W.Frag) : Sp := fun vs H Q _ => ∃ (R : Hp) (ns : List Int), Wf pu H R ∧ HoldsAll R vs [scA K ns] ∧ ns.length ≤ 100 ∧ ∀ H', Q (.bl true) H'
theorem cal_law (T : Txt K mg) (c_law_deck : C8.Cal P w K mg base 1 "_law_deck" (spDeck K) []) (c_law_pebbles_right : C8.Cal P w K mg base 23 "_law_pebbles_right" spPebRight [])
    (c_law_draw : C8.Cal P w K mg base 1 "_law_draw" spDraw []) (c_law_row : C8.Cal P w K mg base 3 "_law_row" spRow []) (c_law_wood : C8.Cal P w K mg base 3 "_law_wood" spLawWood []) (c_law_point : C8.Cal P w K mg base 4 "_law_point" spPoint [])
    (c_law_order : C8.Cal P w K mg base 3 "_law_order" spLawOrder []) (c_needed : C8.Cal P w K mg base 2 "needed" spNeeded []) (c_best_order : C8.Cal P w K mg base 28 "best_order" spBestOrder []) (c_beside : C8.Cal P w K mg base 4 "beside" spBeside [])
    (c_orders_counted : C8.Cal P w K mg base 5 "orders_counted" spOrdersCounted []) (c_law_choose : C8.Cal P w K mg base 1 "_law_choose" spChoose []) (c_least_load : C8.Cal P w K mg base 5 "least_load" spLeastLoad []) (c_load : C8.Cal P w K mg base 6 "load" spLoad [])
    (c_is_order : C8.Cal P w K mg base 3 "is_order" spIsOrder []) (c_law_laid : C8.Cal P w K mg base 6 "_law_laid" spLaid []) (c_told : C8.Cal P w K mg base 3 "told" spTold []) (c_slots : C8.Cal P w K mg base 5 "slots" spSlots []) (c_held : C8.Cal P w K mg base 5 "held" spHeld [])
    {f0 : Addr} {fd0 : FuncData} (F0 : FunD K "law" "law" (defArgs sLaw) (defBody sLaw) (defScope sLaw) [] [] f0 fd0) : FnOk P w K mg base CX0 29 f0 fd0 ["_law_script"] (spLaw K) := by
  refine mk_fn (x := "law") (i := 73) F0 scLaw (fun vs H Q E h => ?_) (fun f cdv A outer s H vs Q E hr h => ?_)
  · obtain ⟨R, ns, _, h, _⟩ := h
    exact (paired_len h).trans rfl
  obtain ⟨R, ns, wf, ha, hns, q⟩ := h
  refine ⟨_, (pss_cons (ps_set (i := 1) scLaw.nd rfl (by first | exact Or.inl rfl | exact Or.inr rfl) (C8.pe_c c_law_deck hr (by decide) rfl (pa_cons (pv 0) pa_nil)))
      (pss_cons (ps_for PassesOwn.never rfl (pi_range1 rfl T.b_range (pa_cons pe_int pa_nil)) (pg_name (i := 2) scLaw.nd rfl (by first | exact Or.inl rfl | exact Or.inr rfl))
      (pss_one (ps_if (pt_not (pt_val (C8.pe_c c_law_pebbles_right hr (by decide) rfl (pa_cons (pv 1) pa_nil)))) (pss_one (ps_ret pe_bl)) pss_nil)))
      (pss_cons (ps_for PassesOwn.never rfl (pi_range1 rfl T.b_range (pa_cons pe_int pa_nil)) (pg_name (i := 2) scLaw.nd rfl (by first | exact Or.inl rfl | exact Or.inr rfl))
      (pss_cons (ps_set (i := 3) scLaw.nd rfl (by first | exact Or.inl rfl | exact Or.inr rfl) (pe_ifExp (pt_cmpR op_eq (pe_op op_mod (pv 2) pe_int) pe_int (nomark _)) (C8.pe_c c_law_row hr (by decide) rfl (pa_cons (pv 1) (pa_cons (C8.pe_c c_law_draw hr (by decide) rfl (pa_cons (pv 1) (pa_cons pe_int pa_nil))) (pa_cons pe_int (pa_cons pe_int pa_nil))))) (C8.pe_c c_law_wood hr (by decide) rfl (pa_cons (pv 1) (pa_cons pe_int pa_nil)))))
      (pss_cons (ps_set (i := 4) scLaw.nd rfl (by first | exact Or.inl rfl | exact Or.inr rfl) (C8.pe_c c_law_row hr (by decide) rfl (pa_cons (pv 1) (pa_cons pe_int (pa_cons pe_int (pa_cons pe_int pa_nil))))))
      (pss_cons (ps_set (i := 5) scLaw.nd rfl (by first | exact Or.inl rfl | exact Or.inr rfl) (C8.pe_c c_law_point hr (by decide) rfl (pa_cons (pv 1) (pa_cons (pe_ix (k_ix_tup K) (pv 3) pe_int (fun _ _ => rfl)) pa_nil))))
      (pss_cons (ps_set (i := 6) scLaw.nd rfl (by first | exact Or.inl rfl | exact Or.inr rfl) (pe_lst (pa_cons (C8.pe_c c_law_order hr (by decide) rfl (pa_cons (pv 1) (pa_cons (pv 3) pa_nil))) pa_nil)))
      (C8.pss_cut (ps_if (pt_cmpR op_lt (pe_callB (k_len K) (by rfl) T.b_len b_len (pa_cons (C8.pe_c c_needed hr (by decide) rfl (pa_cons (pv 3) pa_nil)) pa_nil)) pe_int (nomark _)) (pss_cons (ps_expr (k_bm K PySem.F.plainAttrs_list PySem.F.slot_list_append PySem.F.type_list_append mt_append (pv 6) (pa_cons (C8.pe_c c_best_order hr (by decide) rfl (pa_cons (pv 3) pa_nil)) pa_nil)))
      (pss_cons (ps_set (i := 8) scLaw.nd rfl (by first | exact Or.inl rfl | exact Or.inr rfl) (C8.pe_c c_beside hr (by decide) rfl (pa_cons (pv 3) (pa_cons (pv 4) pa_nil))))
      (pss_cons (ps_par (i := 9) (j := 10) rfl scLaw.nd rfl rfl (by decide) rfl rfl (pa_cons (pe_callB (k_len K) (by rfl) T.b_len b_len (pa_cons (C8.pe_c c_needed hr (by decide) rfl (pa_cons (pv 3) pa_nil)) pa_nil)) (pa_cons (pe_callB (k_len K) (by rfl) T.b_len b_len (pa_cons (C8.pe_c c_needed hr (by decide) rfl (pa_cons (pv 4) pa_nil)) pa_nil)) pa_nil)) (by rfl))
      (pss_one (ps_if (PW.pt (pw_and (pt_cmpR op_lt (pe_op op_add (pv 9) (pv 10)) pe_int (nomark _)) (pw_and1 (pt_cmpR op_lt (pe_op op_add (pe_callB (k_len K) (by rfl) T.b_len b_len (pa_cons (pe_ix (k_ix_tup K) (pv 3) pe_int (fun _ _ => rfl)) pa_nil)) (pe_callB (k_len K) (by rfl) T.b_len b_len (pa_cons (pe_ix (k_ix_tup K) (pv 4) pe_int (fun _ _ => rfl)) pa_nil))) pe_int (nomark _))))) (pss_cons (ps_set (i := 11) scLaw.nd rfl (by first | exact Or.inl rfl | exact Or.inr rfl) (pe_op op_mul (pe_op op_mul (C8.pe_c c_orders_counted hr (by decide) rfl (pa_cons (pv 3) pa_nil)) (C8.pe_c c_orders_counted hr (by decide) rfl (pa_cons (pv 4) pa_nil))) (C8.pe_c c_law_choose hr (by decide) rfl (pa_cons (pe_op op_add (pv 9) (pv 10)) (pa_cons (pv 9) pa_nil)))))
      (pss_cons (ps_if (PW.pt (pw_or (pt_cmpR op_ne (C8.pe_c c_orders_counted hr (by decide) rfl (pa_cons (pv 8) pa_nil)) (pv 11) (nomark _)) (pw_or1 (pt_cmpR op_lt (C8.pe_c c_least_load hr (by decide) rfl (pa_cons (pv 8) pa_nil)) (pe_callB (call_max2 rfl) (by rfl) T.b_max b_max (pa_cons (C8.pe_c c_least_load hr (by decide) rfl (pa_cons (pv 3) pa_nil)) (pa_cons (C8.pe_c c_least_load hr (by decide) rfl (pa_cons (pv 4) pa_nil)) pa_nil))) (nomark _))))) (pss_one (ps_ret pe_bl)) pss_nil)
      (pss_one (ps_if (pt_cmpR op_ne (C8.pe_c c_load hr (by decide) rfl (pa_cons (pv 8) (pa_cons (C8.pe_c c_best_order hr (by decide) rfl (pa_cons (pv 8) pa_nil)) pa_nil))) (C8.pe_c c_least_load hr (by decide) rfl (pa_cons (pv 8) pa_nil)) (nomark _)) (pss_one (ps_ret pe_bl)) pss_nil)))) pss_nil))))) pss_nil)
      (pss_one (ps_for PassesOwn.never rfl (k_pi_list K (pv 6)) (pg_name (i := 7) scLaw.nd rfl (by first | exact Or.inl rfl | exact Or.inr rfl))
      (pss_cons (ps_if (PW.pt (pw_or (pt_not (pt_val (C8.pe_c c_is_order hr (by decide) rfl (pa_cons (pv 3) (pa_cons (pv 7) pa_nil))))) (pw_or1 (pt_cmpR (k_neD K hr.units) (C8.pe_c c_law_laid hr (by decide) rfl (pa_cons (pv 3) (pa_cons (pv 7) (pa_cons (pv 5) pa_nil)))) (C8.pe_c c_told hr (by decide) rfl (pa_cons (pv 3) (pa_cons (pv 5) pa_nil))) (nomark _))))) (pss_one (ps_ret pe_bl)) pss_nil)
      (pss_one (ps_if (PW.pt (pw_or (pt_cmpR op_ne (C8.pe_c c_load hr (by decide) rfl (pa_cons (pv 3) (pa_cons (pv 7) pa_nil))) (pe_op op_add (pe_callB (cr_maxT K rfl hr.units) (by rfl) T.b_max b_max (pa_cons (C8.pe_c c_slots hr (by decide) rfl (pa_cons (pv 3) (pa_cons (pv 7) pa_nil))) pa_nil)) pe_int) (nomark _)) (pw_or1 (pt_cmpR op_ne (pe_ix (k_ix_tup K) (C8.pe_c c_held hr (by decide) rfl (pa_cons (pv 3) (pa_cons (pv 7) pa_nil))) (pe_un un_neg pe_int) (fun _ _ => rfl)) (pe_lenSetT K rfl (by rfl) T.b_len (by rfl) T.b_set (pe_ix (k_ix_tup K) (pv 3) pe_int (fun _ _ => rfl))) (nomark _))))) (pss_one (ps_ret pe_bl)) pss_nil)))))))))))
      (pss_one (ps_ret pe_bl))))), ?_⟩
  refine go_start wf (Ms := []) ⟨List.nodup_nil, fun e he => (List.not_mem_nil he).elim, fun e he => (List.not_mem_nil he).elim, fun e he => (List.not_mem_nil he).elim⟩ ha ?_
  refine go_seq (go_deck (ns := ns) (by rfl) hns fun a b d H R wf => ?_)
  refine go_seq (go_forE (List.range 3) (fun i : Nat => .int (i : Int)) ((ei_r1 (ev_int (i := 3)) (by decide)).to (rgD_zero 3))
    (fun _ Ms As => Ms = [] ∧ ∃ X0 X2 X3 X4 X5 X6 X7 X8 X9 X10 X11, As = [X0, some (valA (.ref a)), X2, X3, X4, X5, X6, X7, X8, X9, X10, X11]) ⟨rfl, _, _, _, _, _, _, _, _, _, _, _, rfl⟩ ?_ ?_)
  · rintro Rb hb i x _ _ hx ⟨rfl, X0, X2, X3, X4, X5, X6, X7, X8, X9, X10, X11, rfl⟩
    exact go_ifF (et_not (et_test (ev_callD (r := dp (.bool true)) (ea_cons (ev_var (by rfl)) ea_nil) (fun vs H Q h => ⟨a, b, d, _, h⟩)))) (by rfl) (go_next (go_inv ⟨rfl, _, _, _, _, _, _, _, _, _, _, _, rfl⟩))
  rintro _ _ ⟨rfl, X0, X2, X3, X4, X5, X6, X7, X8, X9, X10, X11, rfl⟩
  refine go_seq (go_forE (List.range 6) (fun i : Nat => .int (i : Int)) ((ei_r1 (ev_int (i := 6)) (by decide)).to (rgD_zero 6))
    (fun _ Ms As => Ms = [] ∧ ∃ X0 X2 X3 X4 X5 X6 X7 X8 X9 X10 X11, As = [X0, some (valA (.ref a)), X2, X3, X4, X5, X6, X7, X8, X9, X10, X11]) ⟨rfl, _, _, _, _, _, _, _, _, _, _, _, rfl⟩ ?_ ?_)
  rotate_left
  · rintro _ _ ⟨rfl, X0, X2, X3, X4, X5, X6, X7, X8, X9, X10, X11, rfl⟩
    dsimp only
    refine go_ret (r := dp (.bool true)) ?_ (ev_bl (b := true))
    intro v H' R' _ hv
    cases hv
    exact q H'
  rintro Rb hb i x _ _ hx ⟨rfl, X0, X2, X3, X4, X5, X6, X7, X8, X9, X10, X11, rfl⟩
  dsimp only
  -- the row
  refine go_seq (go_asgX (P := fun r : Row => ∃ n, n ≤ 3 ∧ Drawn r n 9) (F := fun r => dp (encR r)) (ev_if (et_B (ev_eqi (ev_mod (ev_var (A := dp (.int (x : Int))) (by rfl)) (ev_int (i := 2)) (by decide)) (ev_int (i := 0))))
    (fun _ => Ev.le (ev_callD (r := rowA fun r => ∃ n, n < 4 ∧ Drawn r n 9) (ea_cons (ev_var (by rfl)) (ea_cons (ev_drawN (many := 4) (ev_var (by rfl)) ev_int (by decide) (by decide)) (ea_cons (ev_int (i := 9)) (ea_cons (ev_int (i := 64)) ea_nil)))) (fun vs H Q h => ⟨a, b, d, _, fun n => n < 4, 9, fun n hn => by omega, by decide, by decide, h⟩)) fun R v ⟨r, ⟨n, hn, hd⟩, h⟩ => ⟨r, ⟨n, by omega, hd⟩, h⟩)
    (fun _ => Ev.le (ev_callD (r := rowA fun r => Drawn r 1 8) (ea_cons (ev_var (by rfl)) (ea_cons (ev_int (i := 8)) ea_nil)) (fun vs H Q h => ⟨a, b, d, _, 8, by decide, by decide, h⟩)) fun R v ⟨r, hd, h⟩ => ⟨r, ⟨1, by omega, ⟨hd.ok, hd.st, hd.inp, Nat.le_trans hd.long (by omega), hd.pos, hd.ends⟩⟩, h⟩)) fun r hr => ?_)
  obtain ⟨n, hn3, dr⟩ := hr
  have ok := dr.ok
  have rl := dr.long
  have re := dr.ends
  have rn := needed_len r
  -- the other
  refine go_seq (go_asgX (P := fun r : Row => ∃ n, n = 1 ∧ Drawn r n 3) (F := fun r => dp (encR r)) (ev_callD (r := rowA fun r => ∃ n, n = 1 ∧ Drawn r n 3) (ea_cons (ev_var (by rfl)) (ea_cons (Ev.le (B := exA (fun n : Nat => n = 1) fun n => dp (.int (n : Int))) (ev_int (i := 1)) fun R v h => ⟨1, rfl, h⟩) (ea_cons (ev_int (i := 3)) (ea_cons (ev_int (i := 64)) ea_nil)))) (fun vs H Q h => ⟨a, b, d, _, fun n => n = 1, 3, fun n hn => by omega, by decide, by decide, h⟩)) fun s hs => ?_)
  obtain ⟨_, rfl, ds⟩ := hs
  have ok' := ds.ok
  have sl := ds.long
  have se := ds.ends
  have sn := needed_len s
  -- the point
  refine go_seq (go_asgX (P := fun pt : List Int => pt.length = r.inputs ∧ ∀ x ∈ pt, x.natAbs ≤ 10 ^ 20) (F := fun pt => dp (.tuple (intsD pt))) (ev_callD (r := ptA r.inputs) (ea_cons (ev_var (by rfl)) (ea_cons (ev_ixTn 0 (ev_var (A := dp (encR r)) (by rfl)) ev_int (by rfl)) ea_nil)) (fun vs H Q h => ⟨a, b, d, _, r.inputs, by have := dr.inp; omega, h⟩)) fun pt hpt => ?_)
  obtain ⟨hpl, hpb⟩ := hpt
  have sm : SmallPt r pt := small_pt (fun i s h c e => (dr.st.sok i s h).st c e) hpb (by omega)
  -- an order
  refine go_seq (go_ownX (P := IsOrd r) (d := fun o => .tuple (natsD o)) (ev_callD (r := ordA r) (ea_cons (ev_var (by rfl)) (ea_cons (ev_var (by rfl)) ea_nil)) (fun vs H Q h => ⟨a, b, d, _, r, ok, by omega, by omega, h⟩)) fun o p io hp => ?_)
  refine go_cut (fun Ms2 As2 => ∃ os : List (List Nat), (∀ o ∈ os, IsOrd r o) ∧ Ms2 = [(p, .lst (os.map fun o => .tuple (natsD o)))] ∧ ∃ X0 X2 X4 X7 X8 X9 X10 X11, As2 = [X0, some (valA (.ref a)), X2, some (dp (encR r)), X4, some (dp (.tuple (intsD pt))), some (valA (.ref p)), X7, X8, X9, X10, X11]) ?_ ?_
  · refine go_if (et_B (ev_lt (ev_len (Ev.sqT (ev_needed ok (by rfl)))) (ev_int (i := 10)))) (fun _ => ?_) (fun _ => go_next (go_inv ⟨[o], fun o' h => by rw [List.mem_singleton.mp h]; exact io, rfl, _, _, _, _, _, _, _, _, rfl⟩))
    have rb : (besideR r s).Ok := beside_ok ok ok' (by omega) (by omega)
    have bl := beside_len r s
    have be := beside_ends r s
    have bn : (needed (besideR r s)).length = (needed r).length + (needed s).length := by rw [beside_needed ok ok' rb, List.length_append, List.length_map]
    have fit : (besideR r s).Fit := ⟨by
      show r.inputs + s.inputs ≤ 20
      have := dr.inp
      have := ds.inp
      omega, by omega, by omega, fun k hk => by
      rw [beside_sizes ok'] at hk
      rcases List.mem_append.mp hk with hk | hk
      · exact dr.st.siz k hk
      · exact ds.st.siz k hk⟩
    refine go_seq (go_appM (P := fun o => IsOrd r o ∧ loadOf r o = leastLoad r) (N := fun _ => [(p, .lst [.tuple (natsD o)])]) (f := fun o => .tuple (natsD o)) (ds := fun _ => [.tuple (natsD o)]) (ds0 := [.tuple (natsD o)]) 0 (ev_var (by rfl)) (Ev.m (ev_best (by rfl) ok (by omega) (by omega) (by omega))) ⟨0, by rfl⟩ (fun _ _ => by rfl) hp (fun _ _ => by simp) fun o2 ho2 => ?_)
    have hos : ∀ o' ∈ [o, o2], IsOrd r o' := fun o' h => by
      rcases List.mem_cons.mp h with rfl | h
      · exact io
      · rw [List.mem_singleton.mp h]; exact ho2.1
    refine go_seq (go_asg (A := dp (encR (besideR r s))) (ev_call (ea_cons (ev_var (by rfl)) (ea_cons (ev_var (by rfl)) ea_nil)) (fun vs H Q h => ⟨_, r, s, ok, ok', rb, fit, h⟩)) ?_)
    refine go_seq (go_par (A := dp (.int ((needed r).length : Int))) (B := dp (.int ((needed s).length : Int))) (ea_cons ((ev_len (Ev.sqT (ev_needed ok (by rfl)))).to (by rw [natsD_len])) (ea_cons ((ev_len (Ev.sqT (ev_needed ok' (by rfl)))).to (by rw [natsD_len])) ea_nil)) ?_)
    refine go_if (et_and (et_B (ev_lt (ev_add (i := ((needed r).length : Int)) (j := ((needed s).length : Int)) (ev_var (by rfl)) (ev_var (by rfl))) (ev_int (i := 13)))) (fun _ => et_B (ev_lt (ev_add (ev_len (Ev.sqT (ev_ends (r := r) (by rfl)))) (ev_len (Ev.sqT (ev_ends (r := s) (by rfl))))) (ev_int (i := 9))))) (fun hb => ?_) (fun _ => go_next (go_inv ⟨[o, o2], hos, rfl, _, _, _, _, _, _, _, _, rfl⟩))
    have hnl : (needed r).length + (needed s).length ≤ 12 := by
      rw [Bool.and_eq_true, decide_eq_true_eq] at hb
      omega
    have hc1 := countOf_le (r := r) (most := 12) (l := needed r) (by omega)
    have hc2 := countOf_le (r := s) (most := 12) (l := needed s) (by omega)
    have hch := chN_le ((needed r).length + (needed s).length) (needed r).length
    have hch2 : 2 ^ ((needed r).length + (needed s).length) ≤ 2 ^ 12 := Nat.pow_le_pow_right (by decide) hnl
    have ech := chF_chN ((needed r).length + (needed s).length) (needed r).length (by omega)
    have p12 : 12 ^ 12 < 2 ^ 64 := by decide
    have p13 : 2 ^ 12 < 2 ^ 64 := by decide
    refine go_seq (go_asg (A := dp (.int ((countOf (besideR r s) 12 (needed (besideR r s)) : Nat) : Int))) ((ev_mul (ev_mul (ev_orders (r := r) (by rfl) ok (by omega)) (ev_orders (r := s) (by rfl) ok' (by omega)) (Or.inl ⟨by omega, by omega⟩)) (ev_call (r := dp (.int (chN ((needed r).length + (needed s).length) (needed r).length : Int))) (ea_cons (ev_add (i := ((needed r).length : Int)) (j := ((needed s).length : Int)) (ev_var (by rfl)) (ev_var (by rfl))) (ea_cons (ev_var (A := dp (.int ((needed r).length : Int))) (by rfl)) ea_nil)) (fun vs H Q h => ⟨_, (needed r).length + (needed s).length, (needed r).length, by omega, by omega, by rw [ech]; exact h⟩)) (Or.inr ⟨by omega, by omega⟩)).to (by
      rw [count_both ok ok' rb hnl]
      simp only [Int.natCast_mul])) ?_)
    have lb := least_both ok ok' rb
    refine go_seq (go_ifF (et_or (et_B (ev_nei (ev_orders (r := besideR r s) (by rfl) rb (by omega)) (ev_var (A := dp (.int ((countOf (besideR r s) 12 (needed (besideR r s)) : Nat) : Int))) (by rfl)))) (fun _ => et_B (ev_lt (ev_least (r := besideR r s) (by rfl) rb (by omega) (by omega)) (ev_max2 (ev_least (r := r) (by rfl) ok (by omega) (by omega)) (ev_least (r := s) (by rfl) ok' (by omega) (by omega)))))) ?_ (go_next ?_))
    · have : ¬ ((leastLoad (besideR r s) : Int) < max (leastLoad r : Int) (leastLoad s : Int)) := by omega
      rw [decide_eq_false this]
      simp
    exact go_ifF (et_B (ev_nei (ev_call2X (r := dp (.int (leastLoad (besideR r s) : Int))) (ev_var (by rfl)) (ev_best (r := besideR r s) (by rfl) rb (by omega) (by omega) (by omega)) (fun o ho vs H Q h => ⟨_, besideR r s, o, rb, by omega, ho.1, by rw [ho.2]; exact h⟩)) (ev_least (r := besideR r s) (by rfl) rb (by omega) (by omega)))) (by simp) (go_next (go_inv ⟨[o, o2], hos, rfl, _, _, _, _, _, _, _, _, rfl⟩))
  · rintro Ms2 As2 ⟨os, hos, rfl, X0, X2, X4, X7, X8, X9, X10, X11, rfl⟩
    refine go_frz (i := 6) (by rfl) hp ?_
    refine go_forE os (fun o : List Nat => .tuple (natsD o)) (ei_list (ev_var (by rfl)))
      (fun _ Ms As => Ms = [] ∧ ∃ X0 X2 X4 X6 X7 X8 X9 X10 X11, As = [X0, some (valA (.ref a)), X2, some (dp (encR r)), X4, some (dp (.tuple (intsD pt))), X6, X7, X8, X9, X10, X11]) ⟨rfl, _, _, _, _, _, _, _, _, _, rfl⟩ ?_ ?_
    · rintro Rb2 hb2 j o' _ _ ho ⟨rfl, X0, X2, X4, X6, X7, X8, X9, X10, X11, rfl⟩
      have io' := hos o' (List.mem_of_getElem? ho)
      refine go_seq (go_ifF (et_or (et_not (et_test (ev_call (r := dp (.bool true)) (ea_cons (ev_var (by rfl)) (ea_cons (ev_var (by rfl)) ea_nil)) (fun vs H Q h => ⟨_, r, o', ok, by omega, io', h⟩))))
        (fun _ => et_B (ev_neD (d := .tuple (intsD (told r pt))) (e := .tuple (intsD (told r pt))) (ev_call (ea_cons (ev_var (by rfl)) (ea_cons (ev_var (by rfl)) (ea_cons (ev_var (by rfl)) ea_nil))) (fun vs H Q h => ⟨_, r, o', pt, ok, by omega, by omega, io', hpl, sm, h⟩)) (ev_call (ea_cons (ev_var (by rfl)) (ea_cons (ev_var (by rfl)) ea_nil)) (fun vs H Q h => ⟨_, r, pt, ok, hpl, sm, h⟩)) (shaped_tup _) (shaped_tup _)))) ?_ (go_next ?_))
      · rw [eqv_tup]
        simp
      obtain ⟨ds', hds⟩ := last_nums ok io'
      have hsl : slotsOf r o' ≠ [] := fun e => ordL_ne ok io' (List.length_eq_zero_iff.mp (by
        have := slotsUp_len r o' o'.length
        have e' : slotsUp r o' o'.length = [] := e
        rw [e'] at this
        exact this.symm))
      have hls := load_slots ok io'
      refine go_ifF (et_or (et_B (ev_nei (i := (loadOf r o' : Int)) (ev_call (ea_cons (ev_var (by rfl)) (ea_cons (ev_var (by rfl)) ea_nil)) (fun vs H Q h => ⟨_, r, o', ok, by omega, io', h⟩)) (ev_add (ev_maxN (l := slotsOf r o') (ev_call (ea_cons (ev_var (by rfl)) (ea_cons (ev_var (by rfl)) ea_nil)) (fun vs H Q h => ⟨_, r, o', ok, by omega, io', h⟩)) hsl) (ev_int (i := 1)))))
        (fun _ => et_B (ev_nei (i := ((setN r.ends).length : Int)) (ev_ixT (ds := natsD (heldNums r o')) (ev_call (ea_cons (ev_var (by rfl)) (ea_cons (ev_var (by rfl)) ea_nil)) (fun vs H Q h => ⟨_, r, o', ok, by omega, io', h⟩)) (ev_neg ev_int) (by rw [hds]; exact L2.atI_last _ _)) ((ev_lenSetT (ns := nI r.ends) (ms := nI (setN r.ends)) ((ev_ends (r := r) (by rfl)).to (by rw [natsD_nI])) (by rw [nI_len]; omega) (nI_nodup (setN_nodup _)) (fun k => ?_)).to (by rw [nI_len])))) ) ?_ (go_next (go_inv ⟨rfl, _, _, _, _, _, _, _, _, _, rfl⟩))
      · unfold nI
        rw [List.mem_map, List.mem_map]
        exact ⟨fun ⟨x, h1, h2⟩ => ⟨x, mem_setN.mp h1, h2⟩, fun ⟨x, h1, h2⟩ => ⟨x, mem_setN.mpr h1, h2⟩⟩
      · have : (loadOf r o' : Int) = (maxL (slotsOf r o') : Int) + 1 := by omega
        rw [decide_eq_true this]
        simp
    · rintro _ _ ⟨rfl, X0, X2, X4, X6, X7, X8, X9, X10, X11, rfl⟩
      exact go_inv ⟨rfl, _, _, _, _, _, _, _, _, _, _, _, rfl⟩
end
end Rb
end
set_option Elab.async false
set_option linter.all false
set_option maxRecDepth 100000
set_option maxHeartbeats 0
namespace Rb
open PySem PySem.Spec PyProof.Rows L2
def pairsL : List (Str × Nat) := ([("is_integer", 11), ("measure", 12), ("sizes", 13), ("step_value", 14), ("values", 15), ("told", 16), ("steps_used", 17), ("needed", 18), ("users_of", 20), ("is_order", 21), ("require_order", 22), ("held_of", 23), ("held_rows", 24), ("held", 25), ("load", 26), ("slots", 27), ("is_wood", 28), ("needs_of", 29), ("tree_order", 30), ("wood_order", 31)] : List (Str × Nat)) ++ ([("require_few", 32), ("lots_of", 33), ("last_ones", 34), ("without", 35), ("best_loads", 36), ("least_load", 37), ("best_order", 38), ("counted", 39), ("orders_counted", 40), ("step_by", 42), ("checked", 43), ("beside", 44), ("best_parting", 47), ("least_acts", 48), ("pebbles_needed", 49), ("acts_needed", 50), ("acts_of", 51), ("pebble_way", 52), ("acted", 53), ("is_way", 54)] : List (Str × Nat)) ++ ([("farthest", 55), ("_law_deck", 57), ("_law_draw", 58), ("_law_one", 59), ("_law_mixed", 60), ("_law_far", 61), ("_law_number", 62), ("_law_point", 63), ("_law_size", 64), ("_law_row", 65), ("_law_used", 66), ("_law_needed", 67), ("_law_order", 68), ("_law_wood", 69), ("_law_choose", 70), ("_law_pebbles_right", 71), ("_law_laid", 72), ("law", 73)] : List (Str × Nat))
def restL : List He.Fa := [.free "len", .free "range", .free "sorted", .free "set", .free "tuple", .free "list", .free "max", .free "min", .free "all", .free "any", .free "sum", .free "isinstance", .free "enumerate", .free "zip", .free "int", .free "abs", .free "dict", .free "bool", .int "MAX_WIDE" 20, .int "MAX_LONG" 400, .int "MAX_SIZE" 64, .int "MAX_LINE" 60, .int "MAX_HELD" 12, .int "NEVER" 1000000000000000000000000000000]
def faL : List He.Fa := [.glo "is_integer", .glo "measure", .glo "sizes", .glo "step_value", .glo "values", .glo "told", .glo "steps_used", .glo "needed", .glo "users_of", .glo "is_order", .glo "require_order", .glo "held_of", .glo "held_rows", .glo "held", .glo "load", .glo "slots", .glo "is_wood", .glo "needs_of", .glo "tree_order", .glo "wood_order", .glo "require_few", .glo "lots_of", .glo "last_ones", .glo "without", .glo "best_loads", .glo "least_load", .glo "best_order", .glo "counted", .glo "orders_counted", .glo "step_by", .glo "checked", .glo "beside", .glo "best_parting", .glo "least_acts", .glo "pebbles_needed", .glo "acts_needed", .glo "acts_of", .glo "pebble_way", .glo "acted", .glo "is_way", .glo "farthest", .glo "_law_deck", .glo "_law_draw", .glo "_law_one", .glo "_law_mixed", .glo "_law_far", .glo "_law_number", .glo "_law_point", .glo "_law_size", .glo "_law_row", .glo "_law_used", .glo "_law_needed", .glo "_law_order", .glo "_law_wood", .glo "_law_choose", .glo "_law_pebbles_right", .glo "_law_laid", .glo "law", .free "len", .free "range", .free "sorted", .free "set", .free "tuple", .free "list", .free "max", .free "min", .free "all", .free "any", .free "sum", .free "isinstance", .free "enumerate", .free "zip", .free "int", .free "abs", .free "dict", .free "bool", .int "MAX_WIDE" 20, .int "MAX_LONG" 400, .int "MAX_SIZE" 64, .int "MAX_LINE" 60, .int "MAX_HELD" 12, .int "NEVER" 1000000000000000000000000000000]
def looseL : List PySem.Str := (["MAX_WIDE", "MAX_LONG", "MAX_SIZE", "MAX_LINE", "MAX_HELD", "NEVER", "RowError", "TooLong", "BadPlan", "TooGreat", "is_integer", "measure", "sizes", "step_value", "values", "told", "steps_used", "needed", "users_of", "is_order", "require_order", "held_of", "held_rows", "held", "load", "slots", "is_wood", "needs_of", "tree_order", "wood_order"] : List PySem.Str) ++ (["require_few", "lots_of", "last_ones", "without", "best_loads", "least_load", "best_order", "counted", "orders_counted", "step_by", "checked", "beside", "best_parting", "least_acts", "pebbles_needed", "acts_needed", "acts_of", "pebble_way", "acted", "is_way", "farthest", "_law_deck", "_law_draw", "_law_one", "_law_mixed", "_law_far", "_law_number", "_law_point", "_law_size", "_law_row"] : List PySem.Str) ++ (["_law_used", "_law_needed", "_law_order", "_law_wood", "_law_choose", "_law_pebbles_right", "_law_laid"] : List PySem.Str)
theorem fn_eq : fnL = pairsL.map fun p => dD p.1 p.2 := rfl
theorem fa_eq : faL = pairsL.map (fun p => .glo p.1) ++ restL := rfl
abbrev rowL : PySem.W.OpenRow := PySem.W.OpenLaw.row PySem.Challenge.rw_rowsback_k99_whole_pebbles_and_held_numb
abbrev hkL : PySem.W.Hook := He.hookD 4 faL fnL
def obL (s : PySem.W.SharedT) : He.AlD := He.obsDG 4 faL fnL (HandSHeadRun.getT s)
theorem obL_eq (s : PySem.W.SharedT) : obL s = hkL.obs s.abs := He.obsDG_eq (HandSHeadRun.getT_eq s)
theorem runL (w : World) : HandSHeadRun.RunEq rowL (PySem.W.view rowL.prog [73]) hkL obL 6000 looseL w := by
  intro os
  kernel_rfl
section
variable {P : Program} {w : World} {K : PySem.W.Frag} {mg : Str → Option Value} {base h : Heap}
theorem txt_of (X : K.In h) (G : h.Ns mainGlobals mg) (c : He.SaysD faL fnL K) : Txt K mg where
  fn := fun d hd => by
    have hd' := hd
    rw [fn_eq] at hd'
    obtain ⟨⟨x, i⟩, hp, rfl⟩ := List.mem_map.mp hd'
    obtain ⟨fd, F⟩ := c.defs hd
    exact ⟨_, fd, He.glo_ok X G (c.facts (f := .glo x) (by rw [fa_eq]; exact List.mem_append_left _ (List.mem_map.mpr ⟨_, hp, rfl⟩))), F⟩
  b_len := He.free_ok X G (c.fact 58 (f := .free "len") rfl)
  b_range := He.free_ok X G (c.fact 59 (f := .free "range") rfl)
  b_sorted := He.free_ok X G (c.fact 60 (f := .free "sorted") rfl)
  b_set := He.free_ok X G (c.fact 61 (f := .free "set") rfl)
  b_tuple := He.free_ok X G (c.fact 62 (f := .free "tuple") rfl)
  b_list := He.free_ok X G (c.fact 63 (f := .free "list") rfl)
  b_max := He.free_ok X G (c.fact 64 (f := .free "max") rfl)
  b_min := He.free_ok X G (c.fact 65 (f := .free "min") rfl)
  b_all := He.free_ok X G (c.fact 66 (f := .free "all") rfl)
  b_any := He.free_ok X G (c.fact 67 (f := .free "any") rfl)
  b_sum := He.free_ok X G (c.fact 68 (f := .free "sum") rfl)
  b_isinstance := He.free_ok X G (c.fact 69 (f := .free "isinstance") rfl)
  b_enumerate := He.free_ok X G (c.fact 70 (f := .free "enumerate") rfl)
  b_zip := He.free_ok X G (c.fact 71 (f := .free "zip") rfl)
  b_int := He.free_ok X G (c.fact 72 (f := .free "int") rfl)
  b_abs := He.free_ok X G (c.fact 73 (f := .free "abs") rfl)
  b_dict := He.free_ok X G (c.fact 74 (f := .free "dict") rfl)
  b_bool := He.free_ok X G (c.fact 75 (f := .free "bool") rfl)
  k_MAX_WIDE := by
    obtain ⟨t, ht⟩ := He.int_ok X G (c.fact 76 (f := .int "MAX_WIDE" 20) rfl)
    exact ⟨_, ht, t, rfl⟩
  k_MAX_LONG := by
    obtain ⟨t, ht⟩ := He.int_ok X G (c.fact 77 (f := .int "MAX_LONG" 400) rfl)
    exact ⟨_, ht, t, rfl⟩
  k_MAX_SIZE := by
    obtain ⟨t, ht⟩ := He.int_ok X G (c.fact 78 (f := .int "MAX_SIZE" 64) rfl)
    exact ⟨_, ht, t, rfl⟩
  k_MAX_LINE := by
    obtain ⟨t, ht⟩ := He.int_ok X G (c.fact 79 (f := .int "MAX_LINE" 60) rfl)
    exact ⟨_, ht, t, rfl⟩
  k_MAX_HELD := by
    obtain ⟨t, ht⟩ := He.int_ok X G (c.fact 80 (f := .int "MAX_HELD" 12) rfl)
    exact ⟨_, ht, t, rfl⟩
  k_NEVER := by
    obtain ⟨t, ht⟩ := He.int_ok X G (c.fact 81 (f := .int "NEVER" 1000000000000000000000000000000) rfl)
    exact ⟨_, ht, t, rfl⟩
theorem law_ok (T : Txt K mg) {f0 : Addr} {fd0 : FuncData} (F0 : FunD K "law" "law" (defArgs (topS 73)) (defBody (topS 73)) (defScope (topS 73)) [] [] f0 fd0) : FnOk P w K mg base CX0 29 f0 fd0 ["_law_script"] (spLaw K) := by
  have c_steps_used := cal_steps_used (P := P) (w := w) (base := base) T 
  have c_measure := cal_measure (P := P) (w := w) (base := base) T 
  have c_step_value := cal_step_value (P := P) (w := w) (base := base) T 
  have c_sizes := cal_sizes (P := P) (w := w) (base := base) T c_measure
  have c_values := cal_values (P := P) (w := w) (base := base) T c_step_value
  have c_told := cal_told (P := P) (w := w) (base := base) T c_values
  have c_needed := cal_needed (P := P) (w := w) (base := base) T c_steps_used
  have c_users_of := cal_users_of (P := P) (w := w) (base := base) T c_steps_used c_needed
  have c_is_integer := cal_is_integer (P := P) (w := w) (base := base) T 
  have c_held_of := cal_held_of (P := P) (w := w) (base := base) T 
  have c_held_rows := cal_held_rows (P := P) (w := w) (base := base) T c_users_of c_held_of
  have c_is_order := cal_is_order (P := P) (w := w) (base := base) T c_is_integer c_steps_used c_needed
  have c_require_order := cal_require_order (P := P) (w := w) (base := base) T c_is_order
  have c_held := cal_held (P := P) (w := w) (base := base) T c_require_order c_held_rows
  have c_load := cal_load (P := P) (w := w) (base := base) T c_held
  have c_slots := cal_slots (P := P) (w := w) (base := base) T c_require_order c_held_rows
  have c_is_wood := cal_is_wood (P := P) (w := w) (base := base) T c_needed c_users_of
  have c_needs_of := cal_needs_of (P := P) (w := w) (base := base) T c_steps_used c_needed
  have c_tree_order := cal_tree_order (P := P) (w := w) (base := base) T c_steps_used 25
  have c_wood_order := cal_wood_order (P := P) (w := w) (base := base) T c_tree_order
  have c_require_few := cal_require_few (P := P) (w := w) (base := base) T c_needed
  have c_last_ones := cal_last_ones (P := P) (w := w) (base := base) T 
  have c_without := cal_without (P := P) (w := w) (base := base) T 
  have c_lots_of := cal_lots_of (P := P) (w := w) (base := base) T c_steps_used c_needed
  have c_best_loads := cal_best_loads (P := P) (w := w) (base := base) T c_users_of c_lots_of c_last_ones c_without c_held_of
  have c_counted := cal_counted (P := P) (w := w) (base := base) T c_users_of c_lots_of c_last_ones c_without c_held_of c_needed
  have c_orders_counted := cal_orders_counted (P := P) (w := w) (base := base) T c_require_few c_counted
  have c_least_load := cal_least_load (P := P) (w := w) (base := base) T c_is_wood c_needs_of c_require_few c_best_loads c_needed
  have c_best_order := cal_best_order (P := P) (w := w) (base := base) T c_is_wood c_needs_of c_wood_order c_require_few c_best_loads c_users_of c_needed c_last_ones c_without
  have c_step_by := cal_step_by (P := P) (w := w) (base := base) T 
  have c_checked := cal_checked (P := P) (w := w) (base := base) T c_sizes
  have c_beside := cal_beside (P := P) (w := w) (base := base) T c_step_by c_checked
  have c_best_parting := cal_best_parting (P := P) (w := w) (base := base) T 
  have c_least_acts := cal_least_acts (P := P) (w := w) (base := base) T c_best_parting
  have c_pebbles_needed := cal_pebbles_needed (P := P) (w := w) (base := base) T 
  have c_acts_needed := cal_acts_needed (P := P) (w := w) (base := base) T c_least_acts
  have c_acts_of := cal_acts_of (P := P) (w := w) (base := base) T c_best_parting 20
  have c_pebble_way := cal_pebble_way (P := P) (w := w) (base := base) T c_least_acts c_acts_of
  have c_acted := cal_acted (P := P) (w := w) (base := base) T 
  have c_is_way := cal_is_way (P := P) (w := w) (base := base) T c_is_integer c_acted
  have c_farthest := cal_farthest (P := P) (w := w) (base := base) T c_least_acts
  have c_law_draw := cal_law_draw (P := P) (w := w) (base := base) T 
  have c_law_one := cal_law_one (P := P) (w := w) (base := base) T c_law_draw
  have c_law_mixed := cal_law_mixed (P := P) (w := w) (base := base) T c_law_draw
  have c_law_far := cal_law_far (P := P) (w := w) (base := base) T c_law_draw
  have c_law_number := cal_law_number (P := P) (w := w) (base := base) T c_law_one c_law_far
  have c_law_point := cal_law_point (P := P) (w := w) (base := base) T c_law_draw c_law_number
  have c_law_deck := cal_law_deck (P := P) (w := w) (base := base) T 
  have c_law_size := cal_law_size (P := P) (w := w) (base := base) T 
  have c_law_used := cal_law_used (P := P) (w := w) (base := base) T 
  have c_law_choose := cal_law_choose (P := P) (w := w) (base := base) T 
  have c_law_row := cal_law_row (P := P) (w := w) (base := base) T c_law_draw c_law_one c_law_size
  have c_law_needed := cal_law_needed (P := P) (w := w) (base := base) T c_law_used
  have c_law_order := cal_law_order (P := P) (w := w) (base := base) T c_law_needed c_law_used c_law_one
  have c_law_wood := cal_law_wood (P := P) (w := w) (base := base) T c_law_draw c_law_one c_law_mixed
  have c_law_laid := cal_law_laid (P := P) (w := w) (base := base) T c_slots
  have c_law_pebbles_right := cal_law_pebbles_right (P := P) (w := w) (base := base) T c_law_draw c_pebbles_needed c_pebble_way c_is_way c_acts_needed c_farthest
  exact cal_law T c_law_deck c_law_pebbles_right c_law_draw c_law_row c_law_wood c_law_point c_law_order c_needed c_best_order c_beside c_orders_counted c_law_choose c_least_load c_load c_is_order c_law_laid c_told c_slots c_held F0
end
theorem facts_law {P : Program} {w : World} {K : PySem.W.Frag} {h : Heap} {mg : Str → Option Value} {f : Addr} (X : K.In h) (G : h.Ns mainGlobals mg) (hfa : mg ("law" : Str) = some (.ref f)) (c : He.SaysD faL fnL K) :
    ∃ fd : FuncData, (∀ (s : Shared) (v : Value), BindsTo s fd ⟨[v], []⟩ [("_law_script", v)]) ∧ ∀ base : Heap, K.In base → base.Ns mainGlobals mg → FnOk P w K mg base CX0 29 f fd ["_law_script"] (spLaw K) := by
  have T := txt_of X G c
  obtain ⟨fd, F⟩ := c.def_ 57 (d := dD "law" 73) rfl
  have e := hfa.symm.trans (He.glo_ok X G (c.fact 57 (f := .glo "law") rfl))
  cases e
  have b := FunD.bindsA (ps := ["_law_script"]) F fun _ _ _ _ _ _ us hl => match us, hl with | [_], _ => rfl
  exact ⟨fd, fun s v => b s [v] rfl, fun base _ _ => law_ok T F⟩
theorem sp_law {K : PySem.W.Frag} {H : Hp} {a : Addr} {ns : List Int} (hl : ns.length ≤ 63) (hS : SqL K H a (ns.map V.int)) : spLaw K [.ref a] H (fun v _ => v = .bl true) fun _ _ _ => False :=
  ⟨H, ns, ⟨Same.refl H, fun _ hx => (List.not_mem_nil hx).elim, trivial⟩, .cons ⟨a, rfl, hS⟩ .nil, Nat.le_trans hl (by decide), fun _ => rfl⟩
end Rb
open PySem PySem.W PySem.Calls PyProof.Rows
theorem PySem.Challenge.cw_rowsback_k99_whole_pebbles_and_held_numb_holds : PySem.Challenge.rw_rowsback_k99_whole_pebbles_and_held_numb.Holds := by
  w_on; o_law
  refine HandSHeadRun.head_any (r := OpenLaw.row PySem.Challenge.rw_rowsback_k99_whole_pebbles_and_held_numb) (q := view (OpenLaw.row PySem.Challenge.rw_rowsback_k99_whole_pebbles_and_held_numb).prog [73]) (H := Rb.hkL) (ob := Rb.obL) (M := 6000) (loose := Rb.looseL) (d := HandSHeadRun.topDef (OpenLaw.row PySem.Challenge.rw_rowsback_k99_whole_pebbles_and_held_numb).prog 73) (kwd := []) Rb.obL_eq
    (by kernel_rfl) (fun s => by kernel_rfl) Rb.runL (by kernel_rfl) (by kernel_rfl) (by kernel_rfl) (by rfl) (by first | assumption | decide +kernel) (by decide +kernel) ⟨rfl, rfl, rfl, rfl, rfl, by decide +kernel⟩ ?hw ?hc
  case hw => w_witness2
  case hc =>
    refine L2.walk_ofE (l := PySem.Challenge.rw_rowsback_k99_whole_pebbles_and_held_numb) (n := 63) (k := 29) (x := "_law_script") (CX := L2.CX0) rfl (by decide) (by kernel_rfl) ⟨rfl, by decide, by decide⟩ ?F (fun _ _ _ _ z => z)
    intro w mg fa h Y G hmg0
    obtain ⟨K, KX, c⟩ := Y
    have hmg : mg ("law" : PySem.Str) = some (.ref fa) := by
      have e : (HandSHeadRun.topDef (OpenLaw.row PySem.Challenge.rw_rowsback_k99_whole_pebbles_and_held_numb).prog 73).name = ("law" : PySem.Str) := by kernel_rfl
      rw [← e]
      exact hmg0
    obtain ⟨fd, hb, hF⟩ := Rb.facts_law (P := (PySem.Challenge.rw_rowsback_k99_whole_pebbles_and_held_numb).prog) (w := w) KX G hmg c
    exact ⟨K, fd, Rb.spLaw K, KX, hb, fun H a ns hl _ hS => Rb.sp_law hl hS, hF⟩
