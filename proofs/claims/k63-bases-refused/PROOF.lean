import PyProof.Rows.All
import Wide.All
import OpenK.AllK
import Wide.FinOn
import HandS.ForMost
import HandS.ForExc
import HandS.Wide
import HandS.IsInst
import HandS.ExcIs
import HandS.Walk
import HandS.Zip
import HandS.Evl
import HandS.Rev
import PyProof.ListRange
import HandS.WordsExc
import HandS.ExcCtx
import HandS.Hot
import HandS.HotCalls
import HandS.SetFor
import PySem.Challenge.RW_branchdepth_k63_bases_refused
set_option linter.all false
namespace Bd

/-! ### the mirror: each def as a plain function -/
/-- n turns of a loop -/
def It {α : Type} : Nat → (Nat → α → α) → α → α
  | 0, _, a => a
  | n + 1, f, a => f n (It n f a)

abbrev L := List Int
abbrev LL := List (List Int)
def at_ (l : L) (k : Nat) : Int := l.getD k 0
def ent (r : LL) (i j : Nat) : Int := at_ (r.getD i []) j
def zeros (n : Nat) : L := List.replicate n 0
def tab (n : Nat) (f : Nat → Int) : L := (List.range n).map f

def trim : L → L
  | [] => []
  | a :: r => match trim r with
    | [] => if a = 0 then [] else [a]
    | b :: t => a :: b :: t
def addAt (l : L) (k : Nat) (x : Int) : L := l.set k (at_ l k + x)
def addRow (a : Int) (g : L) (i : Nat) (n : Nat) (acc : L) : L := It n (fun j acc => addAt acc (i + j) (a * at_ g j)) acc
def convN (f g : L) (n : Nat) (acc : L) : L := It n (fun i acc => if at_ f i = 0 then acc else addRow (at_ f i) g i g.length acc) acc
def mul (f g : L) : L := if f = [] ∨ g = [] then [] else trim (convN f g f.length (zeros (f.length + g.length - 1)))

def divSt (g : L) (k : Nat) (st : L × L) : L × L :=
  let x := at_ st.1 (k + g.length - 1)
  (if x = 0 then st.1 else addRow (-x) g k g.length st.1, st.2.set k x)
def divN (f g : L) (m n : Nat) : L × L := It n (fun t st => divSt g (m - 1 - t) st) (f, zeros m)
def dv (f g : L) : L × L :=
  let st := divN f g (f.length + 1 - g.length) (f.length + 1 - g.length)
  (trim st.2, trim (st.1.take (g.length - 1)))
def deriv (f : L) : L := trim (tab (f.length - 1) fun i => ((i : Int) + 1) * at_ f (i + 1))

/-! determinant -/
def pivotFrom (rows : LL) (k : Nat) : Nat → Nat → Option Nat
  | 0, _ => none
  | n + 1, i => if ent rows i k ≠ 0 then some i else pivotFrom rows k n (i + 1)
def pivot (rows : LL) (k : Nat) : Option Nat := pivotFrom rows k (rows.length - k) k
def detEnt (pk : Int) (rk : L) (ahead : Int) (k : Nat) (t : Nat) (r : L) : L :=
  r.set (k + 1 + t) ((at_ r (k + 1 + t) * pk - at_ r k * at_ rk (k + 1 + t)).fdiv ahead)
def detRow (pk : Int) (rk : L) (ahead : Int) (k n : Nat) (row : L) : L := It n (detEnt pk rk ahead k) row
def detRows (k : Nat) (ahead : Int) (n : Nat) (rows : LL) : LL :=
  It n (fun t rs => rs.set (k + 1 + t) (detRow (ent rs k k) (rs.getD k []) ahead k (rs.length - (k + 1)) (rs.getD (k + 1 + t) []))) rows
def swap {α : Type} (l : List α) (i j : Nat) (d : α) : List α := (l.set i (l.getD j d)).set j (l.getD i d)
def detSt (k : Nat) (st : Option (LL × Int × Int)) : Option (LL × Int × Int) :=
  match st with
  | none => none
  | some (rows, sign, ahead) =>
    match pivot rows k with
    | none => none
    | some i =>
      let rows1 := if i = k then rows else swap rows k i []
      let rows2 := detRows k ahead (rows1.length - (k + 1)) rows1
      some (rows2, if i = k then sign else 0 - sign, ent rows2 k k)
def detN (t : LL) (n : Nat) : Option (LL × Int × Int) := It n detSt (some (t, 1, 1))
def det (t : LL) : Int :=
  match detN t (t.length - 1) with
  | none => 0
  | some (rows, sign, _) => if rows = [] then 1 else sign * ent rows (rows.length - 1) (rows.length - 1)
def rst (f g : L) (i : Nat) : L := It i (fun _ r => (dv (0 :: r) f).2) (dv g f).2
def resTab (f g : L) (n m : Nat) : LL := (List.range m).map fun i => tab n (at_ (rst f g i))
def res (f g : L) : Int := det (resTab f g (f.length - 1) (f.length - 1))
def disc (f : L) : Int := res f (deriv f) * (1 - 2 * (((f.length - 1 : Nat) : Int) * (((f.length - 1 : Nat) : Int) - 1) / 2 % 2))

/-! sizes -/
def szF : Nat → Int → Int → Int
  | 0, _, _ => 0
  | n + 1, x, p => if x % p = 0 then 1 + szF n (x / p) p else 0
def sz (x p : Int) : Int := szF x.natAbs x p
def invF : Nat → Int → Int → Int → Int → Int
  | 0, _, _, h, _ => h
  | n + 1, one, other, h, t => if other = 0 then h else invF n other (one - one / other * other) t (h - one / other * t)
def inv (x m : Int) : Int := invF (m.toNat + 1) (x % m) m 1 0 % m

/-! basis -/
abbrev B := List (L × Int)
def pw (p k : Int) : Int := p ^ k.toNat
def prodOf (f one other : L) : L := tab (f.length - 1) (at_ (dv (mul (trim one) (trim other)) f).2)
def sizeAt (row : L) (d : Nat) (p most : Int) : Int := if at_ row d = 0 then most else min most (sz (at_ row d) p)
def lifted (row : L) (d : Nat) (a p big : Int) : L := row.map fun x => x * inv (at_ row d / pw p a) big % big
def clrRow (row : L) (d : Nat) (a p big : Int) (other : L) : L := tab d fun k => (at_ other k - at_ other d / pw p a * at_ row k) % big
def cleared (rows : LL) (row : L) (d : Nat) (a p big : Int) : LL :=
  (rows.filter fun other => (clrRow row d a p big other).any (· ≠ 0)).map fun other => clrRow row d a p big other ++ zeros (row.length - d)
def lessAt (row : L) (d : Nat) (p most : Int) : Option L → Bool
  | none => true
  | some c => decide (sizeAt row d p most < sizeAt c d p most)
def best (rows : LL) (d : Nat) (p most : Int) : Option L :=
  rows.foldl (fun b row => if at_ row d ≠ 0 ∧ lessAt row d p most b = true then some row else b) none
def triSt (p most : Int) (d : Nat) (st : B × LL) : B × LL :=
  match best st.2 d p most with
  | none => (st.1 ++ [(zeros d ++ [1], 0)], st.2)
  | some b =>
    let a := sizeAt b d p most
    let row := lifted b d a p (pw p most)
    (st.1 ++ [(tab d (fun k => at_ row k / pw p a) ++ [1], most - a)], cleared st.2 row d a p (pw p most))
def triN (rows : LL) (n : Nat) (p most : Int) (m : Nat) : B × LL :=
  It m (fun t st => triSt p most (n - 1 - t) st) ([], rows.map fun row => row.map (· % pw p most))
def tri (rows : LL) (n : Nat) (p most : Int) : B := (triN rows n p most n).1.reverse
def ks (b : B) : L := b.map (·.2)
def maxL (l : L) : Int := l.foldl max (l.headD 0)
def top (b : B) : Int := maxL (ks b)
def overAll (b : B) (n : Nat) (p most : Int) : LL := b.map fun gk => tab n fun j => pw p (most - gk.2) * at_ gk.1 j
def gOf (b : B) (d : Nat) : L := (b.getD d ([], 0)).1
def kOf (b : B) (d : Nat) : Int := (b.getD d ([], 0)).2
def coSt (b : B) (p most : Int) (d : Nat) (st : Option (L × L)) : Option (L × L) :=
  match st with
  | none => none
  | some (rest, found) =>
    let step := pw p (most - kOf b d)
    if at_ rest d % step ≠ 0 then none
    else some (tab rest.length (fun j => at_ rest j - at_ rest d / step * step * at_ (gOf b d) j), found.set d (at_ rest d / step))
def coN (b : B) (row : L) (p most : Int) (m : Nat) : Option (L × L) := It m (fun t st => coSt b p most (b.length - 1 - t) st) (some (row, zeros b.length))
def co (b : B) (row : L) (p most : Int) : Option L := (coN b row p most b.length).map (·.2)

def unit (n i : Nat) : L := tab n fun j => if i = j then 1 else 0
def units (n : Nat) : LL := (List.range n).map (unit n)
def lastRow (rows : LL) (c : Nat) (lo n : Nat) : Option Nat := It n (fun t b => if ent rows (lo + t) c ≠ 0 then some (lo + t) else b) none
def subRow (o : Int) (p : Int) (a b : L) : L := List.zipWith (fun x y => (x - o * y) % p) a b
def clrSt (c done : Nat) (back p : Int) (t : Nat) (st : LL × LL) : LL × LL :=
  let o := ent st.1 (done + 1 + t) c * back % p
  if o = 0 then st else (st.1.set (done + 1 + t) (subRow o p (st.1.getD (done + 1 + t) []) (st.1.getD done [])), st.2.set (done + 1 + t) (subRow o p (st.2.getD (done + 1 + t) []) (st.2.getD done [])))
def clr (rows marks : LL) (done c : Nat) (p : Int) : LL × LL := It (rows.length - (done + 1)) (clrSt c done (inv (ent rows done c) p) p) (rows, marks)
def kerSt (p : Int) (c : Nat) (st : (LL × LL) × Nat) : (LL × LL) × Nat :=
  match lastRow st.1.1 c st.2 (st.1.1.length - st.2) with
  | none => st
  | some i => (clr (swap st.1.1 st.2 i []) (swap st.1.2 st.2 i []) st.2 c p, st.2 + 1)
def kerN (t : LL) (p : Int) (n : Nat) : (LL × LL) × Nat := It n (kerSt p) ((t.map (fun r => r.map (· % p)), units t.length), 0)
def ker (t : LL) (wide : Nat) (p : Int) : LL := (kerN t p wide).1.2.drop (kerN t p wide).2

def rowAdd (x : Int) (row acc : L) : L := List.zipWith (fun one other => one + x * other) acc row
def rowOf (rows : LL) (xs : L) : L := It (min xs.length rows.length) (fun t acc => rowAdd (at_ xs t) (rows.getD t []) acc) (zeros rows.length)
structure Od where
  f : L
  p : Int
  b : B
def Od.n (o : Od) : Nat := o.f.length - 1
def Od.most (o : Od) : Int := top o.b
def Od.rows (o : Od) : LL := overAll o.b o.n o.p o.most
def Od.prodRow (o : Od) (x y : L) : L := prodOf o.f (rowOf o.rows x) (rowOf o.rows y)
def Od.prodO (o : Od) (x y : L) : Option L := co o.b (o.prodRow x y) o.p (2 * o.most)
def Od.prod (o : Od) (x y : L) : L := (o.prodO x y).getD []
def Od.rprod (o : Od) (x y : L) : L := (o.prod x y).map (· % o.p)
def Od.raisedF (o : Od) : Nat → Option L → L → Nat → Option L
  | 0, found, _, _ => found
  | fuel + 1, found, one, often => if often = 0 then found else
    Od.raisedF o fuel (if often % 2 = 1 then (match found with | none => some one | some c => some (o.rprod c one)) else found) (o.rprod one one) (often / 2)
def Od.raised (o : Od) (one : L) (often : Nat) : L := (o.raisedF (often + 1) none one often).getD []
def oftenF (p : Int) (many : Nat) : Nat → Int → Int
  | 0, q => q
  | fuel + 1, q => if q < many then oftenF p many fuel (q * p) else q
def Od.often (o : Od) : Int := oftenF o.p o.rows.length o.rows.length o.p
def lastUnit (rows : LL) (d : Nat) (p : Int) : Option L := rows.foldl (fun b row => if at_ row d % p ≠ 0 then some row else b) none
def boSt (p : Int) (tp : LL) (n d : Nat) (st : LL × LL) : LL × LL :=
  match lastUnit st.2 d p with
  | none => (st.1 ++ [tp.getD d []], st.2)
  | some b =>
    let best := b.map fun x => x * inv (at_ b d) p % p
    (st.1 ++ [best], st.2.map fun row => tab n fun k => (at_ row k - at_ row d * at_ best k) % p)
def boN (some_ tp : LL) (n : Nat) (p : Int) (m : Nat) : LL × LL := It m (fun t st => boSt p tp n (n - 1 - t) st) ([], some_)
def bo (some_ tp : LL) (n : Nat) (p : Int) : LL := (boN some_ tp n p n).1.reverse
def timesP (n : Nat) (p : Int) : LL := (units n).map fun u => u.map (p * ·)
def Od.some1 (o : Od) : LL := ker ((units o.rows.length).map fun u => o.raised u o.often.toNat) o.rows.length o.p
def Od.ideal (o : Od) : LL := bo o.some1 (timesP o.rows.length o.p) o.rows.length o.p
def biSt (ideal : LL) (d : Nat) (st : L × L) : L × L :=
  let x := at_ st.1 d / ent ideal d d
  (tab st.1.length (fun k => at_ st.1 k - x * ent ideal d k), st.2.set d x)
def biN (ideal : LL) (row : L) (m : Nat) : L × L := It m (fun t st => biSt ideal (row.length - 1 - t) st) (row, zeros row.length)
def bi (ideal : LL) (row : L) : L := (biN ideal row row.length).2
def Od.line (o : Od) (one : L) : L := (o.ideal.map fun other => bi o.ideal (o.prod one other)).flatten
def Od.some2 (o : Od) : LL := ker ((units o.rows.length).map o.line) (o.ideal.length * o.ideal.length) o.p
def Od.greater (o : Od) : B := tri ((o.some2.map fun one => rowOf o.rows one) ++ o.rows.map fun row => row.map (o.p * ·)) o.rows.length o.p (o.most + 1)
def basis0 (n : Nat) : B := (List.range n).map fun i => (zeros i ++ [1], 0)
end Bd
set_option linter.all false
namespace Bd
open Lean.Grind
instance (priority := low) castI {A : Type} [Ring A] : IntCast A := Ring.intCast

/-! ### lists by places -/
theorem at_set (l : L) (k j : Nat) (x : Int) : at_ (l.set k x) j = if j = k ∧ k < l.length then x else at_ l j := by
  unfold at_
  rw [List.getD_eq_getElem?_getD, List.getD_eq_getElem?_getD, List.getElem?_set]
  by_cases h : k = j
  · subst h
    by_cases h2 : k < l.length
    · simp [h2]
    · simp [h2]
  · have h' : ¬ (j = k) := fun e => h e.symm
    simp [h, h']
theorem at_ge {l : L} {k : Nat} (h : l.length ≤ k) : at_ l k = 0 := by
  unfold at_
  rw [List.getD_eq_getElem?_getD, List.getElem?_eq_none h]; rfl
theorem at_tab (n : Nat) (f : Nat → Int) (j : Nat) : at_ (tab n f) j = if j < n then f j else 0 := by
  unfold at_ tab
  rw [List.getD_eq_getElem?_getD, List.getElem?_map]
  by_cases h : j < n
  · rw [List.getElem?_range h]; simp [h]
  · rw [List.getElem?_eq_none (by simpa using Nat.le_of_not_lt h)]; simp [h]
theorem len_tab (n : Nat) (f : Nat → Int) : (tab n f).length = n := by simp [tab]
theorem at_zeros (n j : Nat) : at_ (zeros n) j = 0 := by
  unfold at_ zeros
  rw [List.getD_eq_getElem?_getD, List.getElem?_replicate]
  split <;> rfl
theorem len_zeros (n : Nat) : (zeros n).length = n := by simp [zeros]
theorem at_cons_zero (a : Int) (r : L) : at_ (a :: r) 0 = a := rfl
theorem at_cons_succ (a : Int) (r : L) (j : Nat) : at_ (a :: r) (j + 1) = at_ r j := by simp [at_]
theorem at_nil (j : Nat) : at_ [] j = 0 := by simp [at_]
theorem at_append (a b : L) (j : Nat) : at_ (a ++ b) j = if j < a.length then at_ a j else at_ b (j - a.length) := by
  unfold at_
  simp only [List.getD_eq_getElem?_getD]
  by_cases h : j < a.length
  · rw [List.getElem?_append_left h, if_pos h]
  · rw [List.getElem?_append_right (by omega), if_neg h]
theorem at_take (l : L) (n j : Nat) : at_ (l.take n) j = if j < n then at_ l j else 0 := by
  unfold at_
  simp only [List.getD_eq_getElem?_getD, List.getElem?_take]
  split <;> rfl
theorem at_map (l : L) (f : Int → Int) (h0 : f 0 = 0) (j : Nat) : at_ (l.map f) j = f (at_ l j) := by
  unfold at_
  simp only [List.getD_eq_getElem?_getD, List.getElem?_map]
  cases l[j]? with
  | none => simp [h0]
  | some x => rfl
theorem at_zip (f : Int → Int → Int) (h0 : f 0 0 = 0) (a b : L) (h : a.length = b.length) (j : Nat) : at_ (List.zipWith f a b) j = f (at_ a j) (at_ b j) := by
  by_cases hj : j < a.length
  · unfold at_
    simp only [List.getD_eq_getElem?_getD, List.getElem?_zipWith]
    rw [List.getElem?_eq_getElem hj, List.getElem?_eq_getElem (by omega : j < b.length)]
    rfl
  · rw [at_ge (l := a) (by omega), at_ge (l := b) (by omega), at_ge, h0]
    simp; omega
theorem ext_at {a b : L} (h : a.length = b.length) (e : ∀ j, j < a.length → at_ a j = at_ b j) : a = b := by
  apply List.ext_getElem h
  intro j h1 h2
  have := e j h1
  unfold at_ at this
  simpa [List.getD_eq_getElem?_getD, List.getElem?_eq_getElem h1, List.getElem?_eq_getElem h2] using this
theorem trim_le : ∀ l : L, (trim l).length ≤ l.length
  | [] => Nat.le_refl _
  | a :: r => by
    have ih := trim_le r
    unfold trim
    split
    · split <;> simp
    · rename_i b t e; rw [e] at ih; simp at ih ⊢; omega
theorem at_trim : ∀ (l : L) (j : Nat), at_ (trim l) j = at_ l j
  | [], j => rfl
  | a :: r, j => by
    have ih := at_trim r
    unfold trim
    split
    · rename_i e
      rw [e] at ih
      cases j with
      | zero => by_cases h : a = 0 <;> simp [h, at_]
      | succ j => rw [at_cons_succ, ← ih]; by_cases h : a = 0 <;> simp [h, at_]
    · rename_i b t e
      rw [e] at ih
      cases j with
      | zero => rfl
      | succ j => rw [at_cons_succ, at_cons_succ]; exact ih j
theorem trim_last : ∀ (l : L), trim l = [] ∨ at_ (trim l) ((trim l).length - 1) ≠ 0
  | [] => .inl rfl
  | a :: r => by
    have ih := trim_last r
    unfold trim
    split
    · by_cases h : a = 0
      · left; simp [h]
      · right; simp [h, at_]
    · rename_i b t e
      right
      rw [e] at ih
      rcases ih with ih | ih
      · simp at ih
      · simp only [List.length_cons, Nat.add_sub_cancel] at ih ⊢
        rw [at_cons_succ]; exact ih
/-- a list whose last item is not 0 is trimmed -/
theorem trim_eq {l l' : L} (h : l.length ≤ l'.length) (e : ∀ j, at_ l j = at_ l' j) (hl : l = [] ∨ at_ l (l.length - 1) ≠ 0) : trim l' = l := by
  have e' : ∀ j, at_ (trim l') j = at_ l j := fun j => by rw [at_trim, e]
  have : (trim l').length = l.length := by
    rcases Nat.lt_trichotomy (trim l').length l.length with h1 | h1 | h1
    · rcases hl with hl | hl
      · subst hl; simp at h1
      · exact absurd (by rw [← e', at_ge (by omega)]) hl
    · exact h1
    · rcases trim_last l' with h2 | h2
      · rw [h2] at h1; simp at h1
      · exact absurd (by rw [e', at_ge (by omega)]) h2
  exact ext_at this fun j _ => e' j
theorem len_addAt (l : L) (k : Nat) (x : Int) : (addAt l k x).length = l.length := by simp [addAt]
theorem at_addAt (l : L) (k j : Nat) (x : Int) (h : k < l.length) : at_ (addAt l k x) j = at_ l j + if j = k then x else 0 := by
  unfold addAt
  rw [at_set]
  by_cases e : j = k
  · subst e; simp [h]
  · simp [e]
theorem len_addRow (a : Int) (g : L) (i n : Nat) (acc : L) : (addRow a g i n acc).length = acc.length := by
  unfold addRow
  induction n with
  | zero => rfl
  | succ n ih => simp only [It, len_addAt, ih]

/-! ### sums -/
section
variable {A : Type} [CommRing A]
def S : Nat → (Nat → A) → A
  | 0, _ => 0
  | n + 1, f => S n f + f n
theorem S_congr {n : Nat} {f g : Nat → A} (h : ∀ i, i < n → f i = g i) : S n f = S n g := by
  induction n with
  | zero => rfl
  | succ n ih => simp only [S]; rw [ih fun i hi => h i (by omega), h n (by omega)]
theorem S_add (n : Nat) (f g : Nat → A) : S n (fun i => f i + g i) = S n f + S n g := by
  induction n with
  | zero => simp only [S]; grind
  | succ n ih => simp only [S]; grind
theorem S_mul (n : Nat) (a : A) (f : Nat → A) : S n (fun i => a * f i) = a * S n f := by
  induction n with
  | zero => simp only [S]; grind
  | succ n ih => simp only [S]; grind
theorem S_mulr (n : Nat) (a : A) (f : Nat → A) : S n (fun i => f i * a) = S n f * a := by
  induction n with
  | zero => simp only [S]; grind
  | succ n ih => simp only [S]; grind
theorem S_zero {n : Nat} {f : Nat → A} (h : ∀ i, i < n → f i = 0) : S n f = 0 := by
  induction n with
  | zero => rfl
  | succ n ih => simp only [S]; rw [ih fun i hi => h i (by omega), h n (by omega)]; grind
theorem S_swap (n m : Nat) (f : Nat → Nat → A) : S n (fun i => S m (f i)) = S m (fun j => S n (fun i => f i j)) := by
  induction n with
  | zero => simp only [S]; exact (S_zero fun _ _ => rfl).symm
  | succ n ih => simp only [S]; rw [ih, ← S_add]
theorem S_one {n : Nat} {k : Nat} {f : Nat → A} (hk : k < n) (h : ∀ i, i < n → i ≠ k → f i = 0) : S n f = f k := by
  induction n with
  | zero => omega
  | succ n ih =>
    simp only [S]
    by_cases e : k = n
    · subst e; rw [S_zero fun i hi => h i (by omega) (by omega)]; grind
    · rw [ih (by omega) fun i hi => h i (by omega), h n (by omega) (by omega)]; grind
theorem S_le {n m : Nat} {f : Nat → A} (hnm : n ≤ m) (h : ∀ i, n ≤ i → i < m → f i = 0) : S m f = S n f := by
  induction m with
  | zero => have : n = 0 := by omega
            subst this; rfl
  | succ m ih =>
    by_cases e : n = m + 1
    · subst e; rfl
    · simp only [S]; rw [ih (by omega) fun i a b => h i a (by omega), h m (by omega) (by omega)]; grind
theorem cast_add (x y : Int) : ((x + y : Int) : A) = x + y := by grind
theorem cast_mul (x y : Int) : ((x * y : Int) : A) = x * y := by grind
theorem cast_S (n : Nat) (f : Nat → Int) : ((S n f : Int) : A) = S n (fun i => (f i : A)) := by
  induction n with
  | zero => simp only [S]; grind
  | succ n ih => simp only [S]; rw [← ih]; grind

/-! ### values of polynomials at t -/
def evf (t : A) (n : Nat) (c : Nat → Int) : A := S n fun i => (c i : A) * t ^ i
def ev (t : A) (l : L) : A := evf t l.length (at_ l)
theorem ev_le {t : A} {l : L} {n : Nat} (h : l.length ≤ n) : ev t l = evf t n (at_ l) := by
  unfold ev evf
  exact (S_le h fun i h1 _ => by rw [at_ge h1]; grind).symm
theorem ev_eq {t : A} {a b : L} (e : ∀ j, at_ a j = at_ b j) : ev t a = ev t b := by
  rw [ev_le (l := a) (n := a.length + b.length) (by omega), ev_le (l := b) (n := a.length + b.length) (by omega)]
  unfold evf
  exact S_congr fun i _ => by rw [e]
theorem ev_trim (t : A) (l : L) : ev t (trim l) = ev t l := ev_eq fun j => at_trim l j
theorem ev_zeros (t : A) (n : Nat) : ev t (zeros n) = 0 := by
  unfold ev evf
  exact S_zero fun i _ => by rw [at_zeros]; grind
theorem ev_nil (t : A) : ev t [] = 0 := rfl
theorem ev_addAt (t : A) (l : L) (k : Nat) (x : Int) (h : k < l.length) : ev t (addAt l k x) = ev t l + (x : A) * t ^ k := by
  unfold ev evf
  rw [len_addAt]
  have : S l.length (fun i => ((at_ (addAt l k x) i : Int) : A) * t ^ i) = S l.length (fun i => (at_ l i : A) * t ^ i + ((if i = k then x else 0 : Int) : A) * t ^ i) :=
    S_congr fun i _ => by rw [at_addAt _ _ _ _ h]; grind
  rw [this, S_add, S_one (n := l.length) (f := fun i => ((if i = k then x else 0 : Int) : A) * t ^ i) (k := k) h fun i _ hi => by
    show ((if i = k then x else 0 : Int) : A) * t ^ i = 0
    rw [if_neg hi]; grind]
  simp
theorem ev_addRow (t : A) (a : Int) (g : L) (i n : Nat) (acc : L) (h : i + n ≤ acc.length) : ev t (addRow a g i n acc) = ev t acc + (a : A) * t ^ i * evf t n (at_ g) := by
  induction n with
  | zero => simp only [addRow, It, evf, S]; grind
  | succ n ih =>
    have e : addRow a g i (n + 1) acc = addAt (addRow a g i n acc) (i + n) (a * at_ g n) := rfl
    rw [e, ev_addAt _ _ _ _ (by rw [len_addRow]; omega), ih (by omega)]
    simp only [evf, S]
    rw [Semiring.pow_add]
    grind
theorem len_convN (f g : L) (n : Nat) (acc : L) : (convN f g n acc).length = acc.length := by
  unfold convN
  induction n with
  | zero => rfl
  | succ n ih =>
    simp only [It]
    split
    · exact ih
    · rw [len_addRow, ih]
theorem ev_convN (t : A) (f g : L) (n : Nat) (acc : L) (h : n + g.length ≤ acc.length + 1) : ev t (convN f g n acc) = ev t acc + evf t n (at_ f) * ev t g := by
  induction n with
  | zero => simp only [convN, It, evf, S]; grind
  | succ n ih =>
    have e : convN f g (n + 1) acc = if at_ f n = 0 then convN f g n acc else addRow (at_ f n) g n g.length (convN f g n acc) := rfl
    rw [e]
    simp only [evf, S]
    split
    · rename_i h0
      rw [ih (by omega), h0]; unfold evf; grind
    · rw [ev_addRow _ _ _ _ _ _ (by rw [len_convN]; omega), ih (by omega)]
      show _ = _ + (evf t n (at_ f) + _) * ev t g
      unfold ev
      grind
theorem ev_mul (t : A) (f g : L) : ev t (mul f g) = ev t f * ev t g := by
  unfold mul
  split
  · rename_i h
    rcases h with h | h
    · subst h; rw [ev_nil]; grind
    · subst h; rw [ev_nil]; grind
  · rename_i h
    have hf : f.length ≠ 0 := fun e => h (.inl (List.length_eq_zero_iff.mp e))
    have hg : g.length ≠ 0 := fun e => h (.inr (List.length_eq_zero_iff.mp e))
    rw [ev_trim, ev_convN _ _ _ _ _ (by rw [len_zeros]; omega), ev_zeros]
    unfold ev
    grind

/-! ### division by a monic one -/
theorem divN_len (f g : L) (m n : Nat) : (divN f g m n).1.length = f.length ∧ (divN f g m n).2.length = m := by
  induction n with
  | zero => simp [divN, It, len_zeros]
  | succ n ih =>
    have e : divN f g m (n + 1) = divSt g (m - 1 - n) (divN f g m n) := rfl
    rw [e]
    generalize divN f g m n = st at *
    obtain ⟨r, q⟩ := st
    simp only [divSt]
    simp only at ih
    refine ⟨?_, ?_⟩
    · split
      · exact ih.1
      · rw [len_addRow]; exact ih.1
    · simp; exact ih.2
theorem divN_ev (t : A) (f g : L) (m n : Nat) (hm : m + g.length = f.length + 1) (hg : 0 < g.length) (hn : n ≤ m) :
    ev t (divN f g m n).1 + ev t (divN f g m n).2 * ev t g = ev t f ∧ (∀ j, j < m - n → at_ (divN f g m n).2 j = 0) := by
  induction n with
  | zero => simp only [divN, It]; rw [ev_zeros]; exact ⟨by grind, fun j _ => at_zeros _ _⟩
  | succ n ih =>
    obtain ⟨ih1, ih2⟩ := ih (by omega)
    obtain ⟨l1, l2⟩ := divN_len f g m n
    have e : divN f g m (n + 1) = divSt g (m - 1 - n) (divN f g m n) := rfl
    rw [e]
    generalize divN f g m n = st at *
    obtain ⟨r, q⟩ := st
    simp only [divSt]
    simp only at ih1 ih2 l1 l2
    have hk : m - 1 - n < q.length := by omega
    have hset : ∀ x : Int, q.set (m - 1 - n) x = addAt q (m - 1 - n) x := fun x => by
      unfold addAt; rw [ih2 _ (by omega)]; simp
    refine ⟨?_, ?_⟩
    · rw [hset, ev_addAt _ _ _ _ hk]
      split
      · rename_i h0; rw [h0]; grind
      · rw [ev_addRow _ _ _ _ _ _ (by omega)]
        have : evf t g.length (at_ g) = ev t g := rfl
        rw [this]; grind
    · intro j hj
      rw [at_set, if_neg (by omega)]
      exact ih2 j (by omega)
end
/-- the places above are cleared -/
theorem at_addRow (a : Int) (g : L) (i n : Nat) (acc : L) (h : i + n ≤ acc.length) (j : Nat) : at_ (addRow a g i n acc) j = at_ acc j + if i ≤ j ∧ j < i + n then a * at_ g (j - i) else 0 := by
  induction n with
  | zero => simp [addRow, It]; omega
  | succ n ih =>
    have e : addRow a g i (n + 1) acc = addAt (addRow a g i n acc) (i + n) (a * at_ g n) := rfl
    rw [e, at_addAt _ _ _ _ (by rw [len_addRow]; omega), ih (by omega)]
    by_cases h1 : j = i + n
    · subst h1
      rw [if_neg (by omega), if_pos rfl, if_pos (by omega)]
      have : i + n - i = n := by omega
      rw [this]; omega
    · rw [if_neg h1]
      by_cases h2 : i ≤ j ∧ j < i + n
      · rw [if_pos h2, if_pos (by omega)]; omega
      · rw [if_neg h2, if_neg (by omega)]; omega
theorem divN_top (f g : L) (m n : Nat) (hm : m + g.length = f.length + 1) (hg : 0 < g.length) (hmon : at_ g (g.length - 1) = 1) (hn : n ≤ m) :
    ∀ j, m - n + g.length - 1 ≤ j → at_ (divN f g m n).1 j = 0 := by
  induction n with
  | zero => intro j hj; simp only [divN, It]; exact at_ge (by omega)
  | succ n ih =>
    have ih := ih (by omega)
    obtain ⟨l1, l2⟩ := divN_len f g m n
    have e : divN f g m (n + 1) = divSt g (m - 1 - n) (divN f g m n) := rfl
    rw [e]
    generalize divN f g m n = st at *
    obtain ⟨r, q⟩ := st
    simp only [divSt]
    simp only at ih l1 l2
    intro j hj
    split
    · rename_i h0
      by_cases hj2 : j = m - 1 - n + g.length - 1
      · rw [hj2]; exact h0
      · exact ih j (by omega)
    · rw [at_addRow _ _ _ _ _ (by omega)]
      by_cases hj2 : j = m - 1 - n + g.length - 1
      · rw [if_pos (by omega)]
        have : j - (m - 1 - n) = g.length - 1 := by omega
        rw [this, hmon, hj2]; omega
      · rw [if_neg (by omega), ih j (by omega)]; rfl
section
variable {A : Type} [CommRing A]
theorem ev_dv (t : A) (f g : L) (hg : 0 < g.length) (hmon : at_ g (g.length - 1) = 1) :
    ev t f = ev t (dv f g).1 * ev t g + ev t (dv f g).2 := by
  unfold dv
  simp only
  by_cases hc : g.length ≤ f.length
  · have h1 := divN_ev t f g (f.length + 1 - g.length) (f.length + 1 - g.length) (by omega) hg (Nat.le_refl _)
    have h2 := divN_top f g (f.length + 1 - g.length) (f.length + 1 - g.length) (by omega) hg hmon (Nat.le_refl _)
    rw [ev_trim, ev_trim, ← h1.1]
    have : ev t (List.take (g.length - 1) (divN f g (f.length + 1 - g.length) (f.length + 1 - g.length)).1) = ev t (divN f g (f.length + 1 - g.length) (f.length + 1 - g.length)).1 :=
      ev_eq fun j => by
        rw [at_take]
        split
        · rfl
        · exact (h2 j (by omega)).symm
    rw [this]; grind
  · have h0 : f.length + 1 - g.length = 0 := by omega
    rw [h0]
    simp only [divN, It]
    rw [ev_trim, ev_trim, ev_zeros]
    have : List.take (g.length - 1) f = f := List.take_of_length_le (by omega)
    rw [this]; grind
theorem dv_len (f g : L) : (dv f g).2.length ≤ g.length - 1 := by
  unfold dv
  simp only
  refine Nat.le_trans (trim_le _) ?_
  rw [List.length_take]; omega
theorem ev_prodOf (t : A) (f x y : L) (hf : 0 < f.length) (hmon : at_ f (f.length - 1) = 1) (h0 : ev t f = 0) : ev t (prodOf f x y) = ev t x * ev t y := by
  have e := ev_dv t (mul (trim x) (trim y)) f hf hmon
  rw [h0, ev_mul, ev_trim, ev_trim] at e
  have l := dv_len (mul (trim x) (trim y)) f
  have : ev t (prodOf f x y) = ev t (dv (mul (trim x) (trim y)) f).2 := ev_eq fun j => by
    unfold prodOf
    rw [at_tab]
    split
    · rfl
    · exact (at_ge (by omega)).symm
  rw [this]; grind
theorem len_prodOf (f x y : L) : (prodOf f x y).length = f.length - 1 := len_tab _ _
end
end Bd
set_option linter.all false
namespace Bd
open Lean.Grind
/-! ### sums of ints -/
abbrev SI (n : Nat) (f : Nat → Int) : Int := S n f
theorem SI_succ (n : Nat) (f : Nat → Int) : SI (n + 1) f = SI n f + f n := rfl
theorem SI_zero (f : Nat → Int) : SI 0 f = 0 := rfl
theorem SI_add (n : Nat) (f g : Nat → Int) : SI n (fun i => f i + g i) = SI n f + SI n g := S_add n f g
theorem SI_mul (n : Nat) (a : Int) (f : Nat → Int) : SI n (fun i => a * f i) = a * SI n f := S_mul n a f
theorem SI_mulr (n : Nat) (a : Int) (f : Nat → Int) : SI n (fun i => f i * a) = SI n f * a := S_mulr n a f
theorem SI_sub (n : Nat) (f g : Nat → Int) : SI n (fun i => f i - g i) = SI n f - SI n g := by
  induction n with
  | zero => rfl
  | succ n ih => rw [SI_succ, SI_succ, SI_succ, ih]; omega
theorem SI_congr {n : Nat} {f g : Nat → Int} (h : ∀ i, i < n → f i = g i) : SI n f = SI n g := S_congr h
theorem SI_swap (n m : Nat) (f : Nat → Nat → Int) : SI n (fun i => SI m (f i)) = SI m (fun j => SI n (fun i => f i j)) := S_swap n m f
theorem dvd_SI {N : Int} {n : Nat} {f : Nat → Int} (h : ∀ i, i < n → N ∣ f i) : N ∣ SI n f := by
  induction n with
  | zero => exact ⟨0, by rw [SI_zero]; omega⟩
  | succ n ih => rw [SI_succ]; exact Int.dvd_add (ih fun i hi => h i (by omega)) (h n (by omega))
theorem dvd_SI_sub {N : Int} {n : Nat} {f g : Nat → Int} (h : ∀ i, i < n → N ∣ f i - g i) : N ∣ SI n f - SI n g := by
  rw [← SI_sub]; exact dvd_SI h
theorem SI_z {n : Nat} {f : Nat → Int} (h : ∀ i, i < n → f i = 0) : SI n f = 0 := S_zero h
theorem SI_one {n k : Nat} {f : Nat → Int} (hk : k < n) (h : ∀ i, i < n → i ≠ k → f i = 0) : SI n f = f k := S_one hk h
theorem SI_split (n d : Nat) (f : Nat → Int) : SI (d + n) f = SI d f + SI n (fun i => f (d + i)) := by
  induction n with
  | zero => rw [SI_zero]; simp
  | succ n ih => rw [← Nat.add_assoc, SI_succ, ih, SI_succ]; omega
theorem SI_but (n k : Nat) (f : Nat → Int) (hk : k < n) : SI n f = SI n (fun i => if i = k then 0 else f i) + f k := by
  have e : SI n f = SI n (fun i => (if i = k then 0 else f i) + (if i = k then f i else 0)) := SI_congr fun i _ => by split <;> omega
  rw [e, SI_add, SI_one (f := fun i => if i = k then f i else 0) hk fun i _ hi => if_neg hi]
  simp
def sw (a b i : Nat) : Nat := if i = a then b else if i = b then a else i
theorem sw_lt {a b n i : Nat} (ha : a < n) (hb : b < n) (hi : i < n) : sw a b i < n := by unfold sw; split <;> (try split) <;> omega
theorem SI_sw (n a b : Nat) (f : Nat → Int) (ha : a < n) (hb : b < n) : SI n (fun i => f (sw a b i)) = SI n f := by
  by_cases e : a = b
  · subst e
    exact SI_congr fun i _ => by unfold sw; split <;> simp_all
  · have q1 := SI_but n a f ha
    have q2 := SI_but n b (fun i => if i = a then 0 else f i) hb
    have q3 := SI_but n a (fun i => f (sw a b i)) ha
    have q4 := SI_but n b (fun i => if i = a then 0 else f (sw a b i)) hb
    have h1 : SI n (fun i => if i = b then 0 else if i = a then 0 else f (sw a b i)) = SI n (fun i => if i = b then 0 else if i = a then 0 else f i) := SI_congr fun i _ => by
      unfold sw; split <;> (try rfl); split <;> rfl
    have e1 : sw a b a = b := by simp [sw]
    have e2 : sw a b b = a := by unfold sw; rw [if_neg (fun q => e q.symm), if_pos rfl]
    simp only [if_neg (fun q => e q.symm : ¬ b = a), e1, e2] at q1 q2 q3 q4
    rw [q1, q2, q3, q4, h1]; omega

/-! ### primes -/
theorem dvN {n : Nat} {z : Int} : (n : Int) ∣ z ↔ n ∣ z.natAbs := Int.ofNat_dvd_left
structure Pr (p : Nat) : Prop where
  two : 2 ≤ p
  only : ∀ d : Nat, d ∣ p → d = 1 ∨ d = p
theorem Pr.cop {p : Nat} (P : Pr p) {a : Nat} (h : ¬ p ∣ a) : Nat.Coprime p a := by
  have h1 : Nat.gcd p a ∣ p := Nat.gcd_dvd_left _ _
  rcases P.only _ h1 with e | e
  · exact e
  · exact absurd (by have := Nat.gcd_dvd_right p a; rwa [e] at this) h
theorem Pr.mul {p : Nat} (P : Pr p) {a b : Int} (h : (p : Int) ∣ a * b) : (p : Int) ∣ a ∨ (p : Int) ∣ b := by
  by_cases ha : (p : Int) ∣ a
  · exact .inl ha
  · right
    have h1 : ¬ p ∣ a.natAbs := fun e => ha (dvN.mpr e)
    have h2 : p ∣ a.natAbs * b.natAbs := by rw [← Int.natAbs_mul]; exact dvN.mp h
    exact dvN.mpr ((P.cop h1).dvd_of_dvd_mul_left h2)
theorem Pr.pow {p : Nat} (P : Pr p) {a : Int} {k : Nat} (h : (p : Int) ∣ a ^ k) : (p : Int) ∣ a := by
  induction k with
  | zero =>
    exfalso
    have : (p : Int) ∣ 1 := by simpa using h
    have := dvN.mp this
    have := Nat.dvd_one.mp this
    have := P.two; omega
  | succ k ih =>
    rw [Int.pow_succ] at h
    rcases P.mul h with h | h
    · exact ih h
    · exact h
theorem Pr.pos {p : Nat} (P : Pr p) : (0 : Int) < p := by have := P.two; omega
theorem Pr.ppos {p : Nat} (P : Pr p) (k : Nat) : (0 : Int) < (p : Int) ^ k := Int.pow_pos P.pos
/-- what divides a power of p and a number that p does not divide is 1 -/
theorem Pr.one {p : Nat} (P : Pr p) {x g : Int} {k : Nat} (h : ¬ (p : Int) ∣ x) (hg0 : 0 ≤ g) (hg : g ∣ x) (hk : g ∣ (p : Int) ^ k) : g = 1 := by
  have h1 : ¬ p ∣ g.natAbs := fun e => h (Int.dvd_trans (dvN.mpr e) hg)
  have h2 : g.natAbs ∣ p ^ k := by
    have := Int.natAbs_dvd_natAbs.mpr hk
    rwa [Int.natAbs_pow, Int.natAbs_natCast] at this
  have h3 : Nat.Coprime g.natAbs (p ^ k) := ((P.cop h1).symm).pow_right k
  have h4 : g.natAbs = 1 := by
    have := Nat.gcd_eq_left h2
    rw [← this]; exact h3
  omega

/-! ### inverse -/
theorem invF_ok (x m : Int) : ∀ (n : Nat) (one other h t : Int), 0 ≤ one → 0 ≤ other → other.toNat < n → m ∣ h * x - one → m ∣ t * x - other →
    ∃ g : Int, 0 ≤ g ∧ g ∣ one ∧ g ∣ other ∧ m ∣ invF n one other h t * x - g
  | 0, _, _, _, _, _, _, h, _, _ => by omega
  | n + 1, one, other, h, t, h1, h2, hn, d1, d2 => by
    unfold invF
    split
    · rename_i e
      subst e
      exact ⟨one, h1, Int.dvd_refl _, Int.dvd_zero _, d1⟩
    · rename_i e
      have hp : 0 < other := by omega
      have em : one - one / other * other = one % other := by have := Int.mul_ediv_add_emod one other; grind
      have r0 := Int.emod_nonneg one (by omega : other ≠ 0)
      have r1 := Int.emod_lt_of_pos one hp
      obtain ⟨g, g0, g1, g2, g3⟩ := invF_ok x m n other (one - one / other * other) t (h - one / other * t) h2 (by omega) (by omega) d2 (by
        have : (h - one / other * t) * x - (one - one / other * other) = (h * x - one) - one / other * (t * x - other) := by grind
        rw [this]
        exact Int.dvd_sub d1 (Int.dvd_mul_of_dvd_right d2))
      refine ⟨g, g0, ?_, g1, g3⟩
      have : one = (one - one / other * other) + one / other * other := by omega
      rw [this]
      exact Int.dvd_add g2 (Int.dvd_mul_of_dvd_right g1)
theorem inv_ok {x m : Int} (hm : 0 < m) (hc : ∀ g : Int, 0 ≤ g → g ∣ x → g ∣ m → g = 1) : m ∣ inv x m * x - 1 := by
  obtain ⟨g, g0, g1, g2, g3⟩ := invF_ok x m (m.toNat + 1) (x % m) m 1 0 (Int.emod_nonneg _ (by omega)) (by omega) (by omega)
    (by have : (1 : Int) * x - x % m = m * (x / m) := by have := Int.mul_ediv_add_emod x m; omega
        rw [this]; exact Int.dvd_mul_right _ _) (by exact ⟨-1, by omega⟩)
  have gx : g ∣ x := by
    have : x = x % m + m * (x / m) := by have := Int.mul_ediv_add_emod x m; omega
    rw [this]; exact Int.dvd_add g1 (Int.dvd_mul_of_dvd_left g2)
  have e := hc g g0 gx g2
  rw [e] at g3
  unfold inv
  generalize invF (m.toNat + 1) (x % m) m 1 0 = r at *
  have : r % m * x - 1 = (r * x - 1) - m * (r / m * x) := by have := Int.mul_ediv_add_emod r m; grind
  rw [this]
  exact Int.dvd_sub g3 (Int.dvd_mul_right _ _)
theorem inv_range {x m : Int} (hm : 0 < m) : 0 ≤ inv x m ∧ inv x m < m := ⟨Int.emod_nonneg _ (by omega), Int.emod_lt_of_pos _ hm⟩
theorem inv_p {p : Nat} (P : Pr p) {x : Int} (h : ¬ (p : Int) ∣ x) : (p : Int) ∣ inv x p * x - 1 :=
  inv_ok P.pos fun g g0 g1 g2 => P.one (k := 1) h g0 g1 (by rw [Int.pow_one]; exact g2)
theorem inv_pk {p : Nat} (P : Pr p) {x : Int} (k : Nat) (h : ¬ (p : Int) ∣ x) : (p : Int) ^ k ∣ inv x ((p : Int) ^ k) * x - 1 :=
  inv_ok (P.ppos k) fun g g0 g1 g2 => P.one (k := k) h g0 g1 g2

/-! ### the kernel -/
theorem ent_ge {r : LL} {i : Nat} (h : r.length ≤ i) (j : Nat) : ent r i j = 0 := by
  unfold ent; rw [List.getD_eq_getElem?_getD, List.getElem?_eq_none h]; exact at_nil j
theorem getD_set {α : Type} (l : List α) (k j : Nat) (x d : α) : (l.set k x).getD j d = if j = k ∧ k < l.length then x else l.getD j d := by
  rw [List.getD_eq_getElem?_getD, List.getD_eq_getElem?_getD, List.getElem?_set]
  by_cases h : k = j
  · subst h
    by_cases h2 : k < l.length
    · simp [h2]
    · simp [h2]
  · have h' : ¬ (j = k) := fun e => h e.symm
    simp [h, h']
theorem len_swap {α : Type} (l : List α) (i j : Nat) (d : α) : (swap l i j d).length = l.length := by simp [swap]
theorem getD_swap {α : Type} (l : List α) (i j : Nat) (d : α) (hi : i < l.length) (hj : j < l.length) (a : Nat) : (swap l i j d).getD a d = l.getD (sw i j a) d := by
  unfold swap
  rw [getD_set, getD_set]
  simp only [List.length_set, hi, hj, and_true]
  unfold sw
  by_cases h1 : a = j
  · rw [if_pos h1]
    by_cases h2 : a = i
    · rw [if_pos h2, ← h1, h2]
    · rw [if_neg h2, if_pos h1]
  · rw [if_neg h1]
    by_cases h2 : a = i
    · rw [if_pos h2, if_pos h2]
    · rw [if_neg h2, if_neg h2, if_neg h1]
/-- m rows of w numbers from 0 below p -/
structure Mat (r : LL) (m w : Nat) (p : Int) : Prop where
  len : r.length = m
  wid : ∀ i, i < m → (r.getD i []).length = w
  lo : ∀ i j, 0 ≤ ent r i j
  hi : ∀ i j, ent r i j < p
theorem Mat.swap {r : LL} {m w : Nat} {p : Int} (M : Mat r m w p) {a b : Nat} (ha : a < m) (hb : b < m) : Mat (swap r a b []) m w p where
  len := by rw [len_swap, M.len]
  wid := fun i hi => by rw [getD_swap _ _ _ _ (by rw [M.len]; exact ha) (by rw [M.len]; exact hb)]; exact M.wid _ (sw_lt ha hb hi)
  lo := fun i j => by unfold ent; rw [getD_swap _ _ _ _ (by rw [M.len]; exact ha) (by rw [M.len]; exact hb)]; exact M.lo _ _
  hi := fun i j => by unfold ent; rw [getD_swap _ _ _ _ (by rw [M.len]; exact ha) (by rw [M.len]; exact hb)]; exact M.hi _ _
theorem ent_swap {r : LL} {m w : Nat} {p : Int} (M : Mat r m w p) {a b : Nat} (ha : a < m) (hb : b < m) (i j : Nat) : ent (swap r a b []) i j = ent r (sw a b i) j := by
  unfold ent; rw [getD_swap _ _ _ _ (by rw [M.len]; exact ha) (by rw [M.len]; exact hb)]
theorem ent_set (r : LL) (k i j : Nat) (x : L) : ent (r.set k x) i j = if i = k ∧ k < r.length then at_ x j else ent r i j := by
  unfold ent; rw [getD_set]; split <;> rfl
theorem at_subRow (o p : Int) (a b : L) (h : a.length = b.length) (j : Nat) : at_ (subRow o p a b) j = (at_ a j - o * at_ b j) % p := by
  unfold subRow; rw [at_zip _ (by simp) _ _ h]
theorem len_subRow (o p : Int) (a b : L) (h : a.length = b.length) : (subRow o p a b).length = a.length := by
  unfold subRow; simp; omega
theorem Mat.sub {r : LL} {m w : Nat} {p : Int} (hp : 0 < p) (M : Mat r m w p) {i d : Nat} (hi : i < m) (hd : d < m) (o : Int) : Mat (r.set i (subRow o p (r.getD i []) (r.getD d []))) m w p where
  len := by simp [M.len]
  wid := fun k hk => by
    rw [getD_set]
    split
    · rw [len_subRow _ _ _ _ (by rw [M.wid i hi, M.wid d hd])]; exact M.wid i hi
    · exact M.wid k hk
  lo := fun k j => by
    rw [ent_set]
    split
    · rw [at_subRow _ _ _ _ (by rw [M.wid i hi, M.wid d hd])]; exact Int.emod_nonneg _ (by omega)
    · exact M.lo k j
  hi := fun k j => by
    rw [ent_set]
    split
    · rw [at_subRow _ _ _ _ (by rw [M.wid i hi, M.wid d hd])]; exact Int.emod_lt_of_pos _ hp
    · exact M.hi k j
/-- how often the row at done is taken off row i -/
def oft (rows : LL) (c done : Nat) (back p : Int) (i : Nat) : Int := if i ≤ done then 0 else ent rows i c * back % p
def clrN (rows marks : LL) (done c : Nat) (p : Int) (n : Nat) : LL × LL := It n (clrSt c done (inv (ent rows done c) p) p) (rows, marks)
/-- what the clearing leaves behind n turns -/
theorem clrN_ok {rows marks : LL} {m w : Nat} {p : Int} (hp : 0 < p) {done c : Nat} (hd : done < m) (R : Mat rows m w p) (U : Mat marks m m p) (n : Nat) (hn : done + 1 + n ≤ m) :
    Mat (clrN rows marks done c p n).1 m w p ∧ Mat (clrN rows marks done c p n).2 m m p ∧
    (∀ i, done + 1 + n ≤ i → (clrN rows marks done c p n).1.getD i [] = rows.getD i [] ∧ (clrN rows marks done c p n).2.getD i [] = marks.getD i []) ∧
    (∀ i, i ≤ done → (clrN rows marks done c p n).1.getD i [] = rows.getD i [] ∧ (clrN rows marks done c p n).2.getD i [] = marks.getD i []) ∧
    (∀ i, i < done + 1 + n → ∀ j, p ∣ ent (clrN rows marks done c p n).1 i j - (ent rows i j - oft rows c done (inv (ent rows done c) p) p i * ent rows done j)) ∧
    (∀ i, i < done + 1 + n → ∀ j, p ∣ ent (clrN rows marks done c p n).2 i j - (ent marks i j - oft rows c done (inv (ent rows done c) p) p i * ent marks done j)) := by
  induction n with
  | zero =>
    refine ⟨R, U, fun i _ => ⟨rfl, rfl⟩, fun i _ => ⟨rfl, rfl⟩, fun i hi j => ?_, fun i hi j => ?_⟩
    · unfold oft; rw [if_pos (by omega)]; simp [clrN, It]
    · unfold oft; rw [if_pos (by omega)]; simp [clrN, It]
  | succ n ih =>
    obtain ⟨R1, U1, k1, k0, e1, e2⟩ := ih (by omega)
    have e : clrN rows marks done c p (n + 1) = clrSt c done (inv (ent rows done c) p) p n (clrN rows marks done c p n) := rfl
    rw [e]
    generalize clrN rows marks done c p n = st at *
    obtain ⟨r, u⟩ := st
    simp only at *
    generalize hbk : inv (ent rows done c) p = back at *
    have him : done + 1 + n < m := by omega
    obtain ⟨q1, q2⟩ := k1 (done + 1 + n) (Nat.le_refl _)
    obtain ⟨d1, d2⟩ := k0 done (Nat.le_refl _)
    have ho : ent r (done + 1 + n) c * back % p = oft rows c done back p (done + 1 + n) := by
      unfold oft; rw [if_neg (by omega)]; unfold ent; rw [q1]
    unfold clrSt
    simp only
    rw [ho]
    split
    · rename_i h0
      refine ⟨R1, U1, fun i hi => k1 i (by omega), k0, fun i hi j => ?_, fun i hi j => ?_⟩
      · by_cases h : i = done + 1 + n
        · subst h; unfold ent at *; simp only [q1, h0]; simp
        · exact e1 i (by omega) j
      · by_cases h : i = done + 1 + n
        · subst h; unfold ent at *; simp only [q2, h0]; simp
        · exact e2 i (by omega) j
    · refine ⟨R1.sub hp him hd _, U1.sub hp him hd _, fun i hi => ?_, fun i hi => ?_, fun i hi j => ?_, fun i hi j => ?_⟩
      · rw [getD_set, getD_set, if_neg (by omega), if_neg (by omega)]; exact k1 i (by omega)
      · rw [getD_set, getD_set, if_neg (by omega), if_neg (by omega)]; exact k0 i hi
      · simp only [ent_set]
        by_cases h : i = done + 1 + n
        · subst h
          rw [if_pos ⟨rfl, by rw [R1.len]; exact him⟩, at_subRow _ _ _ _ (by rw [R1.wid _ him, R1.wid _ hd]), q1, d1]
          show p ∣ (ent rows (done + 1 + n) j - _ * ent rows done j) % p - _
          generalize ent rows (done + 1 + n) j - oft rows c done back p (done + 1 + n) * ent rows done j = z
          exact ⟨-(z / p), by have := Int.mul_ediv_add_emod z p; grind⟩
        · rw [if_neg (by omega)]; exact e1 i (by omega) j
      · simp only [ent_set]
        by_cases h : i = done + 1 + n
        · subst h
          rw [if_pos ⟨rfl, by rw [U1.len]; exact him⟩, at_subRow _ _ _ _ (by rw [U1.wid _ him, U1.wid _ hd]), q2, d2]
          show p ∣ (ent marks (done + 1 + n) j - _ * ent marks done j) % p - _
          generalize ent marks (done + 1 + n) j - oft rows c done back p (done + 1 + n) * ent marks done j = z
          exact ⟨-(z / p), by have := Int.mul_ediv_add_emod z p; grind⟩
        · rw [if_neg (by omega)]; exact e2 i (by omega) j
theorem lastRow_ok (rows : LL) (c lo n : Nat) : (∀ i, It n (fun t b => if ent rows (lo + t) c ≠ 0 then some (lo + t) else b) none = some i → lo ≤ i ∧ i < lo + n ∧ ent rows i c ≠ 0) ∧
    (It n (fun t b => if ent rows (lo + t) c ≠ 0 then some (lo + t) else b) none = none → ∀ i, lo ≤ i → i < lo + n → ent rows i c = 0) := by
  induction n with
  | zero =>
    refine ⟨fun i h => ?_, fun _ i h1 h2 => ?_⟩
    · have h' : (none : Option Nat) = some i := h
      cases h'
    · omega
  | succ n ih =>
    simp only [It]
    split
    · rename_i h
      refine ⟨fun i e => ?_, fun e => by cases e⟩
      cases e
      exact ⟨by omega, by omega, h⟩
    · rename_i h
      refine ⟨fun i e => ?_, fun e i h1 h2 => ?_⟩
      · obtain ⟨a, b, c⟩ := ih.1 i e; exact ⟨a, by omega, c⟩
      · by_cases h3 : i = lo + n
        · subst h3; exact Decidable.not_not.mp h
        · exact ih.2 e i h1 (by omega)
/-- the state of the kernel's loop at column c -/
structure KI (T rows marks : LL) (m w : Nat) (p : Nat) (done c : Nat) : Prop where
  R : Mat rows m w p
  U : Mat marks m m p
  dm : done ≤ m
  rel : ∀ i, i < m → ∀ j, (p : Int) ∣ ent rows i j - SI m (fun l => ent marks i l * ent T l j)
  all : ∀ x : Nat → Int, ∃ y : Nat → Int, ∀ l, l < m → (p : Int) ∣ x l - SI m (fun i => y i * ent marks i l)
  low : ∀ i, done ≤ i → i < m → ∀ j, j < c → ent rows i j = 0
  ind : ∀ y : Nat → Int, (∀ j, j < c → (p : Int) ∣ SI m (fun i => y i * ent rows i j)) → ∀ i, i < done → (p : Int) ∣ y i
theorem sw_sw (a b i : Nat) : sw a b (sw a b i) = i := by
  unfold sw
  by_cases h1 : i = a
  · subst h1
    rw [if_pos rfl]
    by_cases h2 : b = i
    · rw [if_pos h2]; exact h2
    · rw [if_neg h2, if_pos rfl]
  · rw [if_neg h1]
    by_cases h2 : i = b
    · subst h2
      rw [if_pos rfl, if_pos rfl]
    · rw [if_neg h2, if_neg h1, if_neg h2]
theorem sw_low {a b i : Nat} (ha : i < a) (hb : i < b) : sw a b i = i := by unfold sw; rw [if_neg (by omega), if_neg (by omega)]
theorem sw_ge {a b i : Nat} (h : a ≤ b) (hi : a ≤ i) : a ≤ sw a b i := by unfold sw; split <;> (try split) <;> omega
theorem KI.swap {T rows marks : LL} {m w p done c : Nat} (K : KI T rows marks m w p done c) {b : Nat} (hd : done ≤ b) (hb : b < m) : KI T (swap rows done b []) (swap marks done b []) m w p done c := by
  have ha : done < m := by omega
  refine ⟨K.R.swap ha hb, K.U.swap ha hb, K.dm, fun i hi j => ?_, fun x => ?_, fun i h1 h2 j hj => ?_, fun y hy i hi => ?_⟩
  · rw [ent_swap K.R ha hb]
    have : SI m (fun l => ent (Bd.swap marks done b []) i l * ent T l j) = SI m (fun l => ent marks (sw done b i) l * ent T l j) := SI_congr fun l _ => by rw [ent_swap K.U ha hb]
    rw [this]; exact K.rel _ (sw_lt ha hb hi) j
  · obtain ⟨y, hy⟩ := K.all x
    refine ⟨fun i => y (sw done b i), fun l hl => ?_⟩
    have : SI m (fun i => y (sw done b i) * ent (Bd.swap marks done b []) i l) = SI m (fun i => (fun k => y k * ent marks k l) (sw done b i)) := SI_congr fun i _ => by rw [ent_swap K.U ha hb]
    rw [this, SI_sw m done b (fun k => y k * ent marks k l) ha hb]; exact hy l hl
  · rw [ent_swap K.R ha hb]; exact K.low _ (sw_ge hd h1) (sw_lt ha hb h2) j hj
  · have := K.ind (fun i => y (sw done b i)) (fun j hj => by
      have : SI m (fun i => y (sw done b i) * ent rows i j) = SI m (fun i => (fun k => y k * ent (Bd.swap rows done b []) k j) (sw done b i)) := SI_congr fun i _ => by
        show _ = y (sw done b i) * ent (Bd.swap rows done b []) (sw done b i) j
        rw [ent_swap K.R ha hb, sw_sw]
      rw [this, SI_sw m done b (fun k => y k * ent (Bd.swap rows done b []) k j) ha hb]; exact hy j hj) i hi
    simp only [sw_low hi (Nat.lt_of_lt_of_le hi hd)] at this
    exact this
theorem zero_of {p : Nat} {x : Int} (h0 : 0 ≤ x) (h1 : x < p) (h : (p : Int) ∣ x) : x = 0 := by
  obtain ⟨k, hk⟩ := h
  have hp : (0 : Int) < p := by omega
  rcases Int.lt_trichotomy k 0 with h | h | h
  · have := Int.mul_le_mul_of_nonneg_left (show k ≤ -1 by omega) (show (0 : Int) ≤ p by omega); omega
  · rw [hk, h]; simp
  · have := Int.mul_le_mul_of_nonneg_left (show (1 : Int) ≤ k by omega) (show (0 : Int) ≤ p by omega); omega
theorem KI.clr {T rows marks : LL} {m w p done c : Nat} (P : Pr p) (K : KI T rows marks m w p done c) (hd : done < m) (hne : ent rows done c ≠ 0) :
    KI T (clr rows marks done c p).1 (clr rows marks done c p).2 m w p (done + 1) (c + 1) := by
  have e : Bd.clr rows marks done c p = clrN rows marks done c p (m - (done + 1)) := by unfold Bd.clr clrN; rw [K.R.len]
  rw [e]
  obtain ⟨R1, U1, _, k0, e1, e2⟩ := clrN_ok (c := c) P.pos hd K.R K.U (m - (done + 1)) (by omega)
  generalize clrN rows marks done c p (m - (done + 1)) = st at *
  obtain ⟨r, u⟩ := st
  simp only at *
  have hm : done + 1 + (m - (done + 1)) = m := by omega
  rw [hm] at e1 e2
  have hnd : ¬ (p : Int) ∣ ent rows done c := fun h => hne (zero_of (K.R.lo _ _) (K.R.hi _ _) h)
  have hbk := inv_p P hnd
  generalize inv (ent rows done c) p = back at *
  have ho : ∀ i, i ≤ done → oft rows c done back p i = 0 := fun i h => if_pos h
  have hd1 : ∀ j, ent r done j = ent rows done j := fun j => by unfold ent; rw [(k0 done (Nat.le_refl _)).1]
  have hd2 : ∀ j, ent u done j = ent marks done j := fun j => by unfold ent; rw [(k0 done (Nat.le_refl _)).2]
  have hlow : ∀ i, done + 1 ≤ i → i < m → ∀ j, j < c + 1 → ent r i j = 0 := fun i h1 h2 j hj => by
    refine zero_of (R1.lo _ _) (R1.hi _ _) ?_
    have h3 := e1 i h2 j
    by_cases hjc : j = c
    · subst hjc
      have : (p : Int) ∣ ent rows i j - oft rows j done back p i * ent rows done j := by
        unfold oft; rw [if_neg (by omega)]
        have : ent rows i j - ent rows i j * back % ↑p * ent rows done j = p * (ent rows i j * back / p * ent rows done j) - ent rows i j * (back * ent rows done j - 1) := by
          have := Int.mul_ediv_add_emod (ent rows i j * back) p; grind
        rw [this]
        exact Int.dvd_sub (Int.dvd_mul_right _ _) (Int.dvd_mul_of_dvd_right hbk)
      have h4 := Int.dvd_add h3 this
      have e5 : ent r i j - (ent rows i j - oft rows j done back (↑p) i * ent rows done j) + (ent rows i j - oft rows j done back (↑p) i * ent rows done j) = ent r i j := by omega
      rwa [e5] at h4
    · rw [K.low i (by omega) h2 j (by omega), K.low done (Nat.le_refl _) hd j (by omega)] at h3
      simpa using h3
  refine ⟨R1, U1, by omega, fun i hi j => ?_, fun x => ?_, hlow, fun y hy i hi => ?_⟩
  · have a1 := e1 i hi j
    have a2 := K.rel i hi j
    have a3 := K.rel done hd j
    have a4 : (p : Int) ∣ SI m (fun l => ent u i l * ent T l j) - SI m (fun l => (ent marks i l - oft rows c done back p i * ent marks done l) * ent T l j) := dvd_SI_sub fun l _ => by
      have := e2 i hi l
      have q : ent u i l * ent T l j - (ent marks i l - oft rows c done back (↑p) i * ent marks done l) * ent T l j = (ent u i l - (ent marks i l - oft rows c done back (↑p) i * ent marks done l)) * ent T l j := by grind
      rw [q]; exact Int.dvd_mul_of_dvd_left this
    have q : SI m (fun l => (ent marks i l - oft rows c done back p i * ent marks done l) * ent T l j) = SI m (fun l => ent marks i l * ent T l j) - oft rows c done back p i * SI m (fun l => ent marks done l * ent T l j) := by
      rw [← SI_mul, ← SI_sub]; exact SI_congr fun l _ => by grind
    rw [q] at a4
    generalize SI m (fun l => ent marks i l * ent T l j) = X at *
    generalize SI m (fun l => ent marks done l * ent T l j) = Y at *
    generalize SI m (fun l => ent u i l * ent T l j) = Z at *
    generalize oft rows c done back p i = o at *
    have : ent r i j - Z = (ent r i j - (ent rows i j - o * ent rows done j)) + (ent rows i j - X) - o * (ent rows done j - Y) - (Z - (X - o * Y)) := by grind
    rw [this]
    exact Int.dvd_sub (Int.dvd_sub (Int.dvd_add a1 a2) (Int.dvd_mul_of_dvd_right a3)) a4
  · obtain ⟨y, hy⟩ := K.all x
    refine ⟨fun i => if i = done then y done + SI m (fun k => y k * oft rows c done back p k) else y i, fun l hl => ?_⟩
    have h1 := hy l hl
    have h2 : (p : Int) ∣ SI m (fun i => y i * ent u i l) - SI m (fun i => y i * (ent marks i l - oft rows c done back p i * ent marks done l)) := dvd_SI_sub fun i hi => by
      have q : y i * ent u i l - y i * (ent marks i l - oft rows c done back (↑p) i * ent marks done l) = y i * (ent u i l - (ent marks i l - oft rows c done back (↑p) i * ent marks done l)) := by grind
      rw [q]; exact Int.dvd_mul_of_dvd_right (e2 i hi l)
    have h3 : SI m (fun i => y i * (ent marks i l - oft rows c done back p i * ent marks done l)) = SI m (fun i => y i * ent marks i l) - SI m (fun k => y k * oft rows c done back p k) * ent marks done l := by
      rw [← SI_mulr, ← SI_sub]; exact SI_congr fun i _ => by grind
    have h4 : SI m (fun i => (if i = done then y done + SI m (fun k => y k * oft rows c done back p k) else y i) * ent u i l) = SI m (fun i => y i * ent u i l) + SI m (fun k => y k * oft rows c done back p k) * ent marks done l := by
      rw [SI_but m done _ hd, SI_but m done (fun i => y i * ent u i l) hd]
      have : SI m (fun i => if i = done then 0 else (if i = done then y done + SI m (fun k => y k * oft rows c done back p k) else y i) * ent u i l) = SI m (fun i => if i = done then 0 else y i * ent u i l) := SI_congr fun i _ => by split <;> rfl
      rw [this, if_pos rfl, hd2]; grind
    rw [h4]
    rw [h3] at h2
    generalize SI m (fun i => y i * ent marks i l) = X at *
    generalize SI m (fun k => y k * oft rows c done back p k) * ent marks done l = Y at *
    generalize SI m (fun i => y i * ent u i l) = Z at *
    have : x l - (Z + Y) = (x l - X) - (Z - (X - Y)) := by omega
    rw [this]; exact Int.dvd_sub h1 h2
  · have hy1 : ∀ i, i < done → (p : Int) ∣ y i := K.ind y fun j hj => by
      have h1 := hy j (by omega)
      have h2 : (p : Int) ∣ SI m (fun i => y i * ent r i j) - SI m (fun i => y i * ent rows i j) := dvd_SI_sub fun i hi => by
        have q := e1 i hi j
        rw [K.low done (Nat.le_refl _) hd j hj] at q
        have q2 : y i * ent r i j - y i * ent rows i j = y i * (ent r i j - (ent rows i j - oft rows c done back (↑p) i * 0)) := by grind
        rw [q2]; exact Int.dvd_mul_of_dvd_right q
      have := Int.dvd_sub h1 h2
      have q : SI m (fun i => y i * ent r i j) - (SI m (fun i => y i * ent r i j) - SI m (fun i => y i * ent rows i j)) = SI m (fun i => y i * ent rows i j) := by omega
      rwa [q] at this
    by_cases h : i < done
    · exact hy1 i h
    · have hid : i = done := by omega
      subst hid
      have h1 := hy c (by omega)
      rw [SI_but m i _ hd] at h1
      have h2 : (p : Int) ∣ SI m (fun k => if k = i then 0 else y k * ent r k c) := dvd_SI fun k hk => by
        split
        · exact Int.dvd_zero _
        · by_cases hki : k < i
          · exact Int.dvd_mul_of_dvd_left (hy1 k hki)
          · rw [hlow k (by omega) hk c (by omega)]; simp
      have h3 : (p : Int) ∣ y i * ent r i c := by
        have := Int.dvd_sub h1 h2
        have q : SI m (fun k => if k = i then 0 else y k * ent r k c) + y i * ent r i c - SI m (fun k => if k = i then 0 else y k * ent r k c) = y i * ent r i c := by omega
        rwa [q] at this
      rw [hd1] at h3
      rcases P.mul h3 with h4 | h4
      · exact h4
      · exact absurd h4 hnd
theorem KI.none {T rows marks : LL} {m w p done c : Nat} (K : KI T rows marks m w p done c) (h : ∀ i, done ≤ i → i < m → ent rows i c = 0) : KI T rows marks m w p done (c + 1) :=
  ⟨K.R, K.U, K.dm, K.rel, K.all, fun i h1 h2 j hj => by
    by_cases e : j = c
    · subst e; exact h i h1 h2
    · exact K.low i h1 h2 j (by omega), fun y hy => K.ind y fun j hj => hy j (by omega)⟩
theorem getD_map {α β : Type} (l : List α) (f : α → β) (d : α) (e : β) (h : f d = e) (i : Nat) : (l.map f).getD i e = f (l.getD i d) := by
  simp only [List.getD_eq_getElem?_getD, List.getElem?_map]
  cases l[i]? with
  | none => simp [h]
  | some x => rfl
theorem getD_range {β : Type} (n : Nat) (f : Nat → β) (e : β) (i : Nat) : ((List.range n).map f).getD i e = if i < n then f i else e := by
  simp only [List.getD_eq_getElem?_getD, List.getElem?_map]
  by_cases h : i < n
  · rw [List.getElem?_range h]; simp [h]
  · rw [List.getElem?_eq_none (by simpa using Nat.le_of_not_lt h)]; simp [h]
theorem len_unit (n i : Nat) : (unit n i).length = n := len_tab _ _
theorem len_units (n : Nat) : (units n).length = n := by simp [units]
theorem ent_units (n i j : Nat) : ent (units n) i j = if i < n ∧ j < n ∧ i = j then 1 else 0 := by
  unfold ent units
  rw [getD_range]
  by_cases h : i < n
  · rw [if_pos h]; unfold unit; rw [at_tab]
    by_cases h2 : j < n
    · simp [h, h2]
    · rw [if_neg h2, if_neg (by omega)]
  · rw [if_neg h, at_nil, if_neg (by omega)]
theorem ent_modp (t : LL) (p : Int) (i j : Nat) : ent (t.map (fun r => r.map (· % p))) i j = ent t i j % p := by
  unfold ent
  rw [getD_map t _ [] [] rfl, at_map _ _ (by simp)]
theorem kerN_ok {T : LL} {m w p : Nat} (P : Pr p) (hl : T.length = m) (hw : ∀ i, i < m → (T.getD i []).length = w) (n : Nat) :
    KI T (kerN T p n).1.1 (kerN T p n).1.2 m w p (kerN T p n).2 n := by
  induction n with
  | zero =>
    have e : kerN T p 0 = ((T.map (fun r => r.map (· % (p : Int))), units T.length), 0) := rfl
    rw [e, hl]
    have h2 := P.two
    refine ⟨⟨by simp [hl], fun i hi => ?_, fun i j => ?_, fun i j => ?_⟩, ⟨len_units _, fun i hi => ?_, fun i j => ?_, fun i j => ?_⟩, Nat.zero_le _, fun i hi j => ?_, fun x => ⟨x, fun l hl2 => ?_⟩, fun i _ _ j hj => by omega, fun y _ i hi => by simp at hi⟩
    · simp only; rw [getD_map T _ [] [] rfl]; simp; exact hw i hi
    · simp only; rw [ent_modp]; exact Int.emod_nonneg _ (by omega)
    · simp only; rw [ent_modp]; exact Int.emod_lt_of_pos _ P.pos
    · unfold units; simp only; rw [getD_range, if_pos hi]; exact len_unit _ _
    · simp only; rw [ent_units]; split <;> omega
    · simp only; rw [ent_units]; split <;> omega
    · simp only
      rw [ent_modp, SI_one (k := i) hi fun l h1 h2 => by rw [ent_units, if_neg (by omega)]; simp]
      rw [ent_units, if_pos ⟨hi, hi, rfl⟩]
      exact ⟨-(ent T i j / p), by have := Int.mul_ediv_add_emod (ent T i j) p; grind⟩
    · simp only
      rw [SI_one (k := l) hl2 fun i h1 h2 => by rw [ent_units, if_neg (by omega)]; simp]
      rw [ent_units, if_pos ⟨hl2, hl2, rfl⟩]; simp
  | succ n ih =>
    have e : kerN T p (n + 1) = kerSt p n (kerN T p n) := rfl
    rw [e]
    generalize kerN T p n = st at *
    obtain ⟨⟨r, u⟩, d⟩ := st
    simp only at ih
    unfold kerSt
    simp only
    have hlr := lastRow_ok r n d (m - d)
    have er : lastRow r n d (r.length - d) = It (m - d) (fun t b => if ent r (d + t) n ≠ 0 then some (d + t) else b) none := by unfold lastRow; rw [ih.R.len]
    rw [er]
    have hdm := ih.dm
    split
    · rename_i h0
      exact ih.none fun i h1 h2 => hlr.2 h0 i h1 (by omega)
    · rename_i i h0
      obtain ⟨h1, h2, h3⟩ := hlr.1 i h0
      have hi : i < m := by omega
      have K2 := ih.swap h1 hi
      refine K2.clr P (by omega) ?_
      rw [ent_swap ih.R (by omega) hi]
      have : sw d i d = i := by simp [sw]
      rw [this]; exact h3
theorem ent_drop (l : LL) (d i j : Nat) : ent (l.drop d) i j = ent l (d + i) j := by
  unfold ent; simp [List.getD_eq_getElem?_getD, List.getElem?_drop]
/-- the kernel: its rows vanish, and what vanishes is made of them -/
structure KerOk (T N : LL) (m wide : Nat) (p : Nat) : Prop where
  wid : ∀ r ∈ N, r.length = m
  lo : ∀ i j, 0 ≤ ent N i j
  hi : ∀ i j, ent N i j < p
  van : ∀ i, i < N.length → ∀ c, c < wide → (p : Int) ∣ SI m (fun l => ent N i l * ent T l c)
  gen : ∀ x : Nat → Int, (∀ c, c < wide → (p : Int) ∣ SI m (fun l => x l * ent T l c)) → ∃ y : Nat → Int, ∀ l, l < m → (p : Int) ∣ x l - SI N.length (fun i => y i * ent N i l)
theorem ker_ok {T : LL} {m w p wide : Nat} (P : Pr p) (hl : T.length = m) (hw : ∀ i, i < m → (T.getD i []).length = w) : KerOk T (ker T wide p) m wide p := by
  have K := kerN_ok P hl hw wide
  unfold ker
  generalize kerN T p wide = st at *
  obtain ⟨⟨r, u⟩, d⟩ := st
  simp only at *
  have hdm := K.dm
  have len : (u.drop d).length = m - d := by rw [List.length_drop, K.U.len]
  refine ⟨fun x hx => ?_, fun i j => ?_, fun i j => ?_, fun i hi c hc => ?_, fun x hx => ?_⟩
  · obtain ⟨i, hi, rfl⟩ := List.getElem_of_mem hx
    rw [len] at hi
    have := K.U.wid (d + i) (by omega)
    rw [List.getElem_drop]
    rwa [List.getD_eq_getElem?_getD, List.getElem?_eq_getElem (by rw [K.U.len]; omega)] at this
  · rw [ent_drop]; exact K.U.lo _ _
  · rw [ent_drop]; exact K.U.hi _ _
  · rw [len] at hi
    have h1 := K.rel (d + i) (by omega) c
    rw [K.low (d + i) (by omega) (by omega) c hc] at h1
    have : SI m (fun l => ent (u.drop d) i l * ent T l c) = SI m (fun l => ent u (d + i) l * ent T l c) := SI_congr fun l _ => by rw [ent_drop]
    rw [this]
    have := Int.dvd_neg.mpr h1
    simpa using this
  · obtain ⟨y, hy⟩ := K.all x
    have hy0 : ∀ i, i < d → (p : Int) ∣ y i := K.ind y fun j hj => by
      have h1 := hx j hj
      have h2 : (p : Int) ∣ SI m (fun i => y i * ent r i j) - SI m (fun i => y i * SI m (fun l => ent u i l * ent T l j)) := dvd_SI_sub fun i hi => by
        have q : y i * ent r i j - y i * SI m (fun l => ent u i l * ent T l j) = y i * (ent r i j - SI m (fun l => ent u i l * ent T l j)) := by grind
        rw [q]; exact Int.dvd_mul_of_dvd_right (K.rel i hi j)
      have h3 : SI m (fun i => y i * SI m (fun l => ent u i l * ent T l j)) = SI m (fun l => SI m (fun i => y i * ent u i l) * ent T l j) := by
        have a : SI m (fun i => y i * SI m (fun l => ent u i l * ent T l j)) = SI m (fun i => SI m (fun l => y i * ent u i l * ent T l j)) := SI_congr fun i _ => by rw [← SI_mul]; exact SI_congr fun l _ => by grind
        rw [a, SI_swap]; exact SI_congr fun l _ => by rw [SI_mulr]
      have h4 : (p : Int) ∣ SI m (fun l => x l * ent T l j) - SI m (fun l => SI m (fun i => y i * ent u i l) * ent T l j) := dvd_SI_sub fun l hl => by
        have q : x l * ent T l j - SI m (fun i => y i * ent u i l) * ent T l j = (x l - SI m (fun i => y i * ent u i l)) * ent T l j := by grind
        rw [q]; exact Int.dvd_mul_of_dvd_left (hy l hl)
      rw [h3] at h2
      have : SI m (fun i => y i * ent r i j) = (SI m (fun i => y i * ent r i j) - SI m (fun l => SI m (fun i => y i * ent u i l) * ent T l j)) - (SI m (fun l => x l * ent T l j) - SI m (fun l => SI m (fun i => y i * ent u i l) * ent T l j)) + SI m (fun l => x l * ent T l j) := by omega
      rw [this]
      exact Int.dvd_add (Int.dvd_sub h2 h4) h1
    refine ⟨fun i => y (d + i), fun l hl => ?_⟩
    rw [len]
    have h1 := hy l hl
    have e : m = d + (m - d) := by omega
    have h2 : SI m (fun i => y i * ent u i l) = SI d (fun i => y i * ent u i l) + SI (m - d) (fun i => y (d + i) * ent u (d + i) l) := by
      rw [← SI_split]; congr 1
    have h3 : SI (m - d) (fun i => y (d + i) * ent (u.drop d) i l) = SI (m - d) (fun i => y (d + i) * ent u (d + i) l) := SI_congr fun i _ => by rw [ent_drop]
    rw [h3]
    rw [h2] at h1
    have h4 : (p : Int) ∣ SI d (fun i => y i * ent u i l) := dvd_SI fun i hi => Int.dvd_mul_of_dvd_left (hy0 i hi)
    have := Int.dvd_add h1 h4
    have q : x l - (SI d (fun i => y i * ent u i l) + SI (m - d) (fun i => y (d + i) * ent u (d + i) l)) + SI d (fun i => y i * ent u i l) = x l - SI (m - d) (fun i => y (d + i) * ent u (d + i) l) := by omega
    rwa [q] at this
end Bd
set_option linter.all false
namespace Bd
open Lean.Grind
/-! ### what rows span -/
inductive Sp (N : LL) : (Nat → Int) → Prop
  | zero : Sp N fun _ => 0
  | add {x : Nat → Int} (y : Int) (r : L) : r ∈ N → Sp N x → Sp N fun l => x l + y * at_ r l
theorem Sp.cast {N : LL} {x x' : Nat → Int} (h : Sp N x) (e : ∀ l, x l = x' l) : Sp N x' := by
  have : x = x' := funext e
  rw [← this]; exact h
theorem Sp.sum {N : LL} {x x' : Nat → Int} (h : Sp N x) (h' : Sp N x') : Sp N fun l => x l + x' l := by
  induction h' with
  | zero => exact h.cast fun l => by dsimp only; omega
  | add y r hr _ ih => exact (ih.add y r hr).cast fun l => by dsimp only; omega
theorem Sp.scale {N : LL} {x : Nat → Int} (c : Int) (h : Sp N x) : Sp N fun l => c * x l := by
  induction h with
  | zero => exact Sp.zero.cast fun l => by simp
  | add y r hr _ ih => exact (ih.add (c * y) r hr).cast fun l => by grind
theorem Sp.mem {N : LL} {r : L} (h : r ∈ N) : Sp N (at_ r) := (Sp.zero.add 1 r h).cast fun l => by omega
theorem Sp.mono {N N' : LL} (hs : ∀ r ∈ N, r ∈ N') {x : Nat → Int} (h : Sp N x) : Sp N' x := by
  induction h with
  | zero => exact Sp.zero
  | add y r hr _ ih => exact ih.add y r (hs r hr)
theorem Sp.ofSum (N : LL) (y : Nat → Int) : ∀ n, n ≤ N.length → Sp N fun l => SI n fun i => y i * ent N i l
  | 0, _ => Sp.zero.cast fun l => rfl
  | n + 1, h => ((Sp.ofSum N y n (by omega)).add (y n) (N.getD n []) (by
      rw [List.getD_eq_getElem?_getD, List.getElem?_eq_getElem (by omega)]; exact List.getElem_mem _)).cast fun l => by
        rw [SI_succ]; rfl
theorem Sp.toSum {N : LL} {x : Nat → Int} (h : Sp N x) : ∃ y : Nat → Int, ∀ l, x l = SI N.length fun i => y i * ent N i l := by
  induction h with
  | zero => exact ⟨fun _ => 0, fun l => (SI_z fun i _ => by simp).symm⟩
  | add c r hr _ ih =>
    obtain ⟨y, hy⟩ := ih
    obtain ⟨k, hk, rfl⟩ := List.getElem_of_mem hr
    refine ⟨fun i => y i + if i = k then c else 0, fun l => ?_⟩
    have e : SI N.length (fun i => (y i + if i = k then c else 0) * ent N i l) = SI N.length (fun i => y i * ent N i l) + SI N.length (fun i => (if i = k then c else 0) * ent N i l) := by
      rw [← SI_add]; exact SI_congr fun i _ => by grind
    rw [e, SI_one (f := fun i => (if i = k then c else 0) * ent N i l) hk fun i _ hi => by simp [hi], ← hy]
    simp only [if_pos]
    unfold ent
    rw [List.getD_eq_getElem?_getD, List.getElem?_eq_getElem hk]; rfl
/-- the lattice of rows and of N times all -/
def W (R : LL) (n : Nat) (N : Int) (x : Nat → Int) : Prop := ∃ s, Sp R s ∧ ∀ l, l < n → N ∣ x l - s l
theorem W.ofN {R : LL} {n : Nat} {N : Int} {x : Nat → Int} (h : ∀ l, l < n → N ∣ x l) : W R n N x := ⟨_, Sp.zero, fun l hl => by simpa using h l hl⟩
theorem W.ofSp {R : LL} {n : Nat} {N : Int} {x : Nat → Int} (h : Sp R x) : W R n N x := ⟨x, h, fun l _ => by simp⟩
theorem W.sum {R : LL} {n : Nat} {N : Int} {x x' : Nat → Int} (h : W R n N x) (h' : W R n N x') : W R n N fun l => x l + x' l := by
  obtain ⟨s, a, b⟩ := h
  obtain ⟨s', a', b'⟩ := h'
  refine ⟨_, a.sum a', fun l hl => ?_⟩
  have : x l + x' l - (s l + s' l) = (x l - s l) + (x' l - s' l) := by omega
  rw [this]; exact Int.dvd_add (b l hl) (b' l hl)
theorem W.scale {R : LL} {n : Nat} {N : Int} {x : Nat → Int} (c : Int) (h : W R n N x) : W R n N fun l => c * x l := by
  obtain ⟨s, a, b⟩ := h
  refine ⟨_, a.scale c, fun l hl => ?_⟩
  have : c * x l - c * s l = c * (x l - s l) := by grind
  rw [this]; exact Int.dvd_mul_of_dvd_right (b l hl)
theorem W.cast {R : LL} {n : Nat} {N : Int} {x x' : Nat → Int} (h : W R n N x) (e : ∀ l, l < n → N ∣ x' l - x l) : W R n N x' := by
  obtain ⟨s, a, b⟩ := h
  refine ⟨s, a, fun l hl => ?_⟩
  have : x' l - s l = (x' l - x l) + (x l - s l) := by omega
  rw [this]; exact Int.dvd_add (e l hl) (b l hl)
theorem W.eq {R : LL} {n : Nat} {N : Int} {x x' : Nat → Int} (h : W R n N x) (e : ∀ l, l < n → x' l = x l) : W R n N x' := h.cast fun l hl => by rw [e l hl]; simp
theorem W.Sum {R : LL} {n : Nat} {N : Int} (m : Nat) (z : Nat → Int) (F : Nat → Nat → Int) (h : ∀ t, t < m → W R n N (F t)) : W R n N fun l => SI m fun t => z t * F t l := by
  induction m with
  | zero => exact W.ofSp (Sp.zero.cast fun l => rfl)
  | succ m ih => exact ((ih fun t ht => h t (by omega)).sum ((h m (by omega)).scale (z m))).eq fun l _ => by rw [SI_succ]

/-! ### solving by a triangle -/
/-- row d of a triangle: nothing behind d, not 0 at d -/
def Tri (n : Nat) (C : Nat → Nat → Int) : Prop := ∀ d, d < n → C d d ≠ 0 ∧ ∀ k, d < k → C d k = 0
theorem Tri.at_top {n : Nat} {C : Nat → Nat → Int} (T : Tri n C) {e : Nat} (he : e < n) (z : Nat → Int) : SI (e + 1) (fun d => z d * C d e) = z e * C e e := by
  rw [SI_succ, SI_z fun d hd => by rw [(T d (by omega)).2 e hd]; simp]; omega
theorem Tri.inj {n : Nat} {C : Nat → Nat → Int} (T : Tri n C) : ∀ (m : Nat) (z : Nat → Int), m ≤ n → (∀ l, l < n → SI m (fun d => z d * C d l) = 0) → ∀ d, d < m → z d = 0
  | 0, _, _, _, d, hd => by omega
  | m + 1, z, hm, h, d, hd => by
    have h1 := h m (by omega)
    rw [T.at_top (by omega)] at h1
    have h2 : z m = 0 := by
      rcases Int.mul_eq_zero.mp h1 with h | h
      · exact h
      · exact absurd h (T m (by omega)).1
    by_cases e : d = m
    · subst e; exact h2
    · exact Tri.inj T m z (by omega) (fun l hl => by have := h l hl; rw [SI_succ, h2] at this; simpa using this) d (by omega)
theorem biN_ok {C : LL} {row : L} {n : Nat} (T : Tri n (ent C)) (hl : row.length = n) {z : Nat → Int} (h : ∀ l, l < n → at_ row l = SI n fun d => z d * ent C d l) (m : Nat) (hm : m ≤ n) :
    (biN C row m).1.length = n ∧ (biN C row m).2.length = n ∧ (∀ l, l < n → at_ (biN C row m).1 l = SI (n - m) fun d => z d * ent C d l) ∧ ∀ d, n - m ≤ d → d < n → at_ (biN C row m).2 d = z d := by
  induction m with
  | zero => exact ⟨hl, by simp [biN, It, len_zeros, hl], fun l h1 => h l h1, fun d h1 h2 => by omega⟩
  | succ m ih =>
    obtain ⟨l1, l2, h1, h2⟩ := ih (by omega)
    have e : biN C row (m + 1) = biSt C (row.length - 1 - m) (biN C row m) := rfl
    rw [e, hl]
    generalize biN C row m = st at *
    obtain ⟨r, f⟩ := st
    simp only [biSt] at *
    have hd : n - 1 - m < n := by omega
    have e2 : n - m = (n - 1 - m) + 1 := by omega
    have e3 : n - (m + 1) = n - 1 - m := by omega
    have hx : at_ r (n - 1 - m) / ent C (n - 1 - m) (n - 1 - m) = z (n - 1 - m) := by
      rw [h1 _ hd, e2, T.at_top hd, Int.mul_ediv_cancel _ (T _ hd).1]
    rw [hx]
    refine ⟨by rw [len_tab]; exact l1, by simp [l2], fun l hl2 => ?_, fun d h3 h4 => ?_⟩
    · rw [at_tab, if_pos (by omega), h1 l hl2, e2, e3, SI_succ]; omega
    · rw [at_set]
      by_cases h5 : d = n - 1 - m
      · subst h5; rw [if_pos ⟨rfl, by omega⟩]
      · rw [if_neg (by omega)]; exact h2 d (by omega) h4
theorem bi_ok {C : LL} {row : L} {n : Nat} (T : Tri n (ent C)) (hl : row.length = n) {z : Nat → Int} (h : ∀ l, l < n → at_ row l = SI n fun d => z d * ent C d l) :
    (bi C row).length = n ∧ ∀ d, d < n → at_ (bi C row) d = z d := by
  obtain ⟨_, l2, _, h2⟩ := biN_ok T hl h n (Nat.le_refl _)
  unfold bi
  rw [hl]
  exact ⟨l2, fun d hd => h2 d (by omega) hd⟩
theorem len_biN (C : LL) (row : L) (m : Nat) : (biN C row m).1.length = row.length ∧ (biN C row m).2.length = row.length := by
  induction m with
  | zero => simp [biN, It, len_zeros]
  | succ m ih =>
    have e : biN C row (m + 1) = biSt C (row.length - 1 - m) (biN C row m) := rfl
    rw [e]; simp only [biSt, len_tab, List.length_set]; exact ih
theorem len_bi (C : LL) (row : L) : (bi C row).length = row.length := (len_biN C row _).2
/-- the row of a basis, over p to most -/
def cRow (b : B) (p most : Int) (d l : Nat) : Int := pw p (most - kOf b d) * at_ (gOf b d) l
theorem coN_ok {b : B} {row : L} {p most : Int} {n : Nat} (hp : 0 < p) (hb : b.length = n) (T : Tri n (cRow b p most)) (h1 : ∀ d, d < n → at_ (gOf b d) d = 1) (hl : row.length = n) {z : Nat → Int}
    (h : ∀ l, l < n → at_ row l = SI n fun d => z d * cRow b p most d l) (m : Nat) (hm : m ≤ n) :
    ∃ r f, coN b row p most m = some (r, f) ∧ r.length = n ∧ f.length = n ∧ (∀ l, l < n → at_ r l = SI (n - m) fun d => z d * cRow b p most d l) ∧ ∀ d, n - m ≤ d → d < n → at_ f d = z d := by
  induction m with
  | zero => exact ⟨row, zeros n, by simp [coN, It, hb], hl, len_zeros _, fun l h1 => h l h1, fun d h1 h2 => by omega⟩
  | succ m ih =>
    obtain ⟨r, f, e0, l1, l2, h2, h3⟩ := ih (by omega)
    have e : coN b row p most (m + 1) = coSt b p most (b.length - 1 - m) (coN b row p most m) := rfl
    rw [e, e0, hb]
    simp only [coSt]
    have hd : n - 1 - m < n := by omega
    have e2 : n - m = (n - 1 - m) + 1 := by omega
    have e3 : n - (m + 1) = n - 1 - m := by omega
    have hC : cRow b p most (n - 1 - m) (n - 1 - m) = pw p (most - kOf b (n - 1 - m)) := by unfold cRow; rw [h1 _ hd]; omega
    have hx : at_ r (n - 1 - m) = z (n - 1 - m) * pw p (most - kOf b (n - 1 - m)) := by rw [h2 _ hd, e2, T.at_top hd, hC]
    have hpw : pw p (most - kOf b (n - 1 - m)) ≠ 0 := by rw [← hC]; exact (T _ hd).1
    rw [hx, Int.mul_emod_left, if_neg (by simp), Int.mul_ediv_cancel _ hpw]
    refine ⟨_, _, rfl, by rw [len_tab]; exact l1, by simp [l2], fun l hl2 => ?_, fun d h3' h4 => ?_⟩
    · rw [at_tab, if_pos (by omega), h2 l hl2, e2, e3, SI_succ]; unfold cRow; grind
    · rw [at_set]
      by_cases h5 : d = n - 1 - m
      · subst h5; rw [if_pos ⟨rfl, by omega⟩]
      · rw [if_neg (by omega)]; exact h3 d (by omega) h4
theorem co_ok {b : B} {row : L} {p most : Int} {n : Nat} (hp : 0 < p) (hb : b.length = n) (T : Tri n (cRow b p most)) (h1 : ∀ d, d < n → at_ (gOf b d) d = 1) (hl : row.length = n) {z : Nat → Int}
    (h : ∀ l, l < n → at_ row l = SI n fun d => z d * cRow b p most d l) : ∃ f, co b row p most = some f ∧ f.length = n ∧ ∀ d, d < n → at_ f d = z d := by
  obtain ⟨r, f, e, _, l2, _, h3⟩ := coN_ok hp hb T h1 hl h n (Nat.le_refl _)
  refine ⟨f, ?_, l2, fun d hd => h3 d (by omega) hd⟩
  unfold co
  rw [hb, e]; rfl

/-! ### the basis of rests and p times all -/
theorem lastUnit_ok (rows : LL) (d : Nat) (p : Int) : (∀ b, lastUnit rows d p = some b → b ∈ rows ∧ at_ b d % p ≠ 0) ∧ (lastUnit rows d p = none → ∀ r ∈ rows, at_ r d % p = 0) := by
  have key : ∀ (l : LL) (o : Option L), (∀ b, o = some b → b ∈ rows ∧ at_ b d % p ≠ 0) → (∀ r ∈ l, r ∈ rows) →
      (∀ b, l.foldl (fun b row => if at_ row d % p ≠ 0 then some row else b) o = some b → b ∈ rows ∧ at_ b d % p ≠ 0) ∧
      (l.foldl (fun b row => if at_ row d % p ≠ 0 then some row else b) o = none → o = none ∧ ∀ r ∈ l, at_ r d % p = 0) := by
    intro l
    induction l with
    | nil => intro o h _; exact ⟨h, fun e => ⟨e, fun r hr => by cases hr⟩⟩
    | cons a t ih =>
      intro o h hs
      rw [List.foldl_cons]
      by_cases ha : at_ a d % p ≠ 0
      · rw [if_pos ha]
        obtain ⟨i1, i2⟩ := ih (some a) (fun b e => by cases e; exact ⟨hs a List.mem_cons_self, ha⟩) fun r hr => hs r (List.mem_cons_of_mem _ hr)
        refine ⟨i1, fun e => ?_⟩
        have := (i2 e).1
        cases this
      · rw [if_neg ha]
        obtain ⟨i1, i2⟩ := ih o h fun r hr => hs r (List.mem_cons_of_mem _ hr)
        refine ⟨i1, fun e => ⟨(i2 e).1, fun r hr => ?_⟩⟩
        rcases List.mem_cons.mp hr with rfl | hr
        · exact Decidable.not_not.mp ha
        · exact (i2 e).2 r hr
  obtain ⟨k1, k2⟩ := key rows none (fun b e => by cases e) fun r hr => hr
  exact ⟨k1, fun e => (k2 e).2⟩
/-- rows of n numbers from 0 below p, nothing from e on -/
structure Low (R : LL) (n : Nat) (p : Int) (e : Nat) : Prop where
  wid : ∀ r ∈ R, r.length = n
  rng : ∀ r ∈ R, ∀ j, 0 ≤ at_ r j ∧ at_ r j < p
  low : ∀ r ∈ R, ∀ j, e ≤ j → at_ r j = 0
theorem at_unit (n i j : Nat) : at_ (unit n i) j = if j < n ∧ i = j then 1 else 0 := by
  unfold unit; rw [at_tab]; split <;> split <;> simp_all
theorem ent_timesP (n : Nat) (p : Int) (i j : Nat) : ent (timesP n p) i j = if i < n ∧ j < n ∧ i = j then p else 0 := by
  unfold timesP ent
  rw [getD_map _ _ [] [] rfl, at_map _ _ (by omega)]
  have := ent_units n i j
  unfold ent at this
  rw [this]; split <;> omega
theorem ent_snoc (f : LL) (x : L) (i j : Nat) : ent (f ++ [x]) i j = if i = f.length then at_ x j else ent f i j := by
  unfold ent
  simp only [List.getD_eq_getElem?_getD]
  by_cases h : i = f.length
  · subst h; simp
  · rw [if_neg h]
    by_cases h2 : i < f.length
    · rw [List.getElem?_append_left h2]
    · rw [List.getElem?_eq_none (by simp; omega), List.getElem?_eq_none (by omega)]
theorem emod_one {p a : Int} (h2 : 1 < p) (h : p ∣ a - 1) : a % p = 1 := by
  have h4 : a % p = 1 % p := Int.emod_eq_emod_iff_emod_sub_eq_zero.mpr (Int.emod_eq_zero_of_dvd h)
  rw [h4]; exact Int.emod_eq_of_lt (by omega) h2
theorem dvd_emod (a p : Int) : p ∣ a % p - a := ⟨-(a / p), by have := Int.mul_ediv_add_emod a p; grind⟩
theorem dvd_emod' (a p : Int) : p ∣ a - a % p := ⟨a / p, by have := Int.mul_ediv_add_emod a p; omega⟩
theorem emod_small {p x : Int} (h0 : 0 ≤ x) (h1 : x < p) (h : x % p = 0) : x = 0 := by rw [Int.emod_eq_of_lt h0 h1] at h; exact h
/-- the state of basis_of's loop behind m turns -/
structure BI (R0 : LL) (n : Nat) (p : Nat) (m : Nat) (found rows : LL) : Prop where
  len : found.length = m
  low : Low rows n p (n - m)
  inW : ∀ r ∈ rows, W R0 n p (at_ r)
  wid : ∀ r ∈ found, r.length = n
  fW : ∀ t, t < m → W R0 n p (ent found t)
  fr : ∀ t, t < m → ∀ j, 0 ≤ ent found t j ∧ ent found t j ≤ p
  fl : ∀ t, t < m → ∀ k, n - 1 - t < k → ent found t k = 0
  fd : ∀ t, t < m → ent found t (n - 1 - t) = 1 ∨ ent found t (n - 1 - t) = p
  gen : ∀ x, W R0 n p x → ∃ (z s u : Nat → Int), Sp rows s ∧ (∀ l, n - m ≤ l → u l = 0) ∧ ∀ l, l < n → x l = SI m (fun t => z t * ent found t l) + s l + p * u l
theorem BI.start {R0 : LL} {n p : Nat} (h : Low R0 n p n) : BI R0 n p 0 [] R0 where
  len := rfl
  low := h
  inW := fun r hr => W.ofSp (Sp.mem hr)
  wid := fun r hr => by cases hr
  fW := fun t ht => by omega
  fr := fun t ht => by omega
  fl := fun t ht => by omega
  fd := fun t ht => by omega
  gen := fun x hx => by
    obtain ⟨s, h1, h2⟩ := hx
    refine ⟨fun _ => 0, s, fun l => if l < n then (x l - s l) / p else 0, h1, fun l hl => if_neg (by omega), fun l hl => ?_⟩
    simp only [if_pos hl]
    rw [Int.mul_ediv_cancel' (h2 l hl), SI_zero]; omega
theorem BI.none {R0 : LL} {n p m : Nat} {found rows : LL} (P : Pr p) (K : BI R0 n p m found rows) (hm : m < n) (h : ∀ r ∈ rows, at_ r (n - 1 - m) % p = 0) :
    BI R0 n p (m + 1) (found ++ [(timesP n p).getD (n - 1 - m) []]) rows := by
  have hp := P.pos
  have hT : ∀ j, at_ ((timesP n p).getD (n - 1 - m) []) j = if j = n - 1 - m then (p : Int) else 0 := fun j => by
    have := ent_timesP n p (n - 1 - m) j
    unfold ent at this
    rw [this]; split <;> split <;> omega
  have he : ∀ t j, ent (found ++ [(timesP n p).getD (n - 1 - m) []]) t j = if t = m then (if j = n - 1 - m then (p : Int) else 0) else ent found t j := fun t j => by
    rw [ent_snoc, K.len, hT]
  refine ⟨by simp [K.len], ⟨K.low.wid, K.low.rng, fun r hr j hj => ?_⟩, K.inW, fun r hr => ?_, fun t ht => ?_, fun t ht j => ?_, fun t ht k hk => ?_, fun t ht => ?_, fun x hx => ?_⟩
  · by_cases e : j = n - 1 - m
    · subst e; exact emod_small (K.low.rng r hr _).1 (K.low.rng r hr _).2 (h r hr)
    · exact K.low.low r hr j (by omega)
  · rcases List.mem_append.mp hr with hr | hr
    · exact K.wid r hr
    · rw [List.mem_singleton.mp hr]
      unfold timesP
      rw [getD_map _ _ [] [] rfl]
      unfold units
      rw [getD_range, if_pos (by omega)]; simp [len_unit]
  · by_cases e : t = m
    · subst e
      refine W.ofN fun l _ => ?_
      rw [he, if_pos rfl]; split
      · exact Int.dvd_refl _
      · exact Int.dvd_zero _
    · exact (K.fW t (by omega)).eq fun l _ => by rw [he, if_neg e]
  · rw [he]
    split
    · split <;> omega
    · exact K.fr t (by omega) j
  · rw [he]
    split
    · rw [if_neg (by omega)]
    · exact K.fl t (by omega) k hk
  · rw [he]
    split
    · rename_i e; subst e; rw [if_pos rfl]; exact .inr rfl
    · exact K.fd t (by omega)
  · obtain ⟨z, s, u, h1, h2, h3⟩ := K.gen x hx
    refine ⟨fun t => if t = m then u (n - 1 - m) else z t, s, fun l => if l = n - 1 - m then 0 else u l, h1, fun l hl => ?_, fun l hl => ?_⟩
    · dsimp only; split
      · rfl
      · exact h2 l (by omega)
    · rw [h3 l hl, SI_succ]
      have : SI m (fun t => (if t = m then u (n - 1 - m) else z t) * ent (found ++ [(timesP n p).getD (n - 1 - m) []]) t l) = SI m (fun t => z t * ent found t l) := SI_congr fun t ht => by
        rw [he, if_neg (by omega), if_neg (by omega)]
      rw [this, he]
      simp only [if_pos]
      by_cases e : l = n - 1 - m
      · subst e; simp only [if_pos]; grind
      · simp only [if_neg e]; omega
theorem BI.some {R0 : LL} {n p m : Nat} {found rows : LL} (P : Pr p) (K : BI R0 n p m found rows) (hm : m < n) {b : L} (hb : b ∈ rows) (h : at_ b (n - 1 - m) % p ≠ 0) :
    BI R0 n p (m + 1) (found ++ [b.map fun x => x * inv (at_ b (n - 1 - m)) p % p])
      (rows.map fun row => tab n fun k => (at_ row k - at_ row (n - 1 - m) * at_ (b.map fun x => x * inv (at_ b (n - 1 - m)) p % p) k) % p) := by
  have hp := P.pos
  have h2 := P.two
  generalize hd : n - 1 - m = d at *
  have hdn : d < n := by omega
  have hinv := inv_p P (x := at_ b d) fun q => h (Int.emod_eq_zero_of_dvd q)
  generalize hi : inv (at_ b d) p = i at *
  generalize hB : (b.map fun x => x * i % (p : Int)) = best at *
  have aB : ∀ j, at_ best j = at_ b j * i % p := fun j => by rw [← hB, at_map _ _ (by simp)]
  have bd : at_ best d = 1 := by rw [aB]; exact emod_one (by omega) (by rw [Int.mul_comm]; exact hinv)
  have bl : ∀ j, d < j → at_ best j = 0 := fun j hj => by rw [aB, K.low.low b hb j (by omega)]; simp
  have br : ∀ j, 0 ≤ at_ best j ∧ at_ best j < p := fun j => by rw [aB]; exact ⟨Int.emod_nonneg _ (by omega), Int.emod_lt_of_pos _ hp⟩
  have bw : best.length = n := by rw [← hB]; simp [K.low.wid b hb]
  have bW : W R0 n p (at_ best) := ((K.inW b hb).scale i).cast fun l hl => by
    rw [aB, Int.mul_comm i]; exact dvd_emod _ _
  have he : ∀ t j, ent (found ++ [best]) t j = if t = m then at_ best j else ent found t j := fun t j => by rw [ent_snoc, K.len]
  have ar : ∀ row : L, ∀ j, at_ (tab n fun k => (at_ row k - at_ row d * at_ best k) % (p : Int)) j = if j < n then (at_ row j - at_ row d * at_ best j) % p else 0 := fun row j => at_tab _ _ _
  refine ⟨by simp [K.len], ⟨fun r hr => ?_, fun r hr j => ?_, fun r hr j hj => ?_⟩, fun r hr => ?_, fun r hr => ?_, fun t ht => ?_, fun t ht j => ?_, fun t ht k hk => ?_, fun t ht => ?_, fun x hx => ?_⟩
  · obtain ⟨row, _, rfl⟩ := List.mem_map.mp hr; exact len_tab _ _
  · obtain ⟨row, _, rfl⟩ := List.mem_map.mp hr
    rw [ar]; split
    · exact ⟨Int.emod_nonneg _ (by omega), Int.emod_lt_of_pos _ hp⟩
    · omega
  · obtain ⟨row, hrow, rfl⟩ := List.mem_map.mp hr
    rw [ar]; split
    · by_cases e : j = d
      · subst e; rw [bd]; simp
      · rw [K.low.low row hrow j (by omega), bl j (by omega)]; simp
    · rfl
  · obtain ⟨row, hrow, rfl⟩ := List.mem_map.mp hr
    refine ((K.inW row hrow).sum (bW.scale (-at_ row d))).cast fun l hl => ?_
    rw [ar, if_pos hl]
    have : at_ row l + -at_ row d * at_ best l = at_ row l - at_ row d * at_ best l := by grind
    rw [this]; exact dvd_emod _ _
  · rcases List.mem_append.mp hr with hr | hr
    · exact K.wid r hr
    · rw [List.mem_singleton.mp hr]; exact bw
  · by_cases e : t = m
    · subst e
      exact bW.eq fun l _ => by rw [he, if_pos rfl]
    · exact (K.fW t (by omega)).eq fun l _ => by rw [he, if_neg e]
  · rw [he]
    split
    · have := br j; omega
    · exact K.fr t (by omega) j
  · rw [he]
    split
    · exact bl k (by omega)
    · exact K.fl t (by omega) k hk
  · rw [he]
    split
    · rename_i e; subst e; left; rw [hd]; exact bd
    · exact K.fd t (by omega)
  · obtain ⟨z, s, u, h1, h2, h3⟩ := K.gen x hx
    have key : ∀ s, Sp rows s → ∃ (c : Int) (s' q : Nat → Int), Sp (rows.map fun row => tab n fun k => (at_ row k - at_ row d * at_ best k) % (p : Int)) s' ∧ (∀ l, d ≤ l → q l = 0) ∧ (c = s d) ∧ ∀ l, l < n → s l = s' l + c * at_ best l + p * q l := by
      intro s hs
      induction hs with
      | zero => exact ⟨0, _, fun _ => 0, Sp.zero, fun _ _ => rfl, rfl, fun l _ => by simp⟩
      | add y r hr _ ih =>
        obtain ⟨c, s', q, i1, i2, i3, i4⟩ := ih
        refine ⟨c + y * at_ r d, _, fun l => q l + if l < d then y * ((at_ r l - at_ r d * at_ best l) / p) else 0, i1.add y _ (List.mem_map_of_mem hr), fun l hl => ?_, by rw [i3], fun l hl => ?_⟩
        · dsimp only; rw [i2 l hl, if_neg (by omega)]; rfl
        · dsimp only
          rw [i4 l hl, ar, if_pos hl]
          by_cases hld : l < d
          · rw [if_pos hld]
            have := Int.mul_ediv_add_emod (at_ r l - at_ r d * at_ best l) p
            grind
          · rw [if_neg hld]
            by_cases e : l = d
            · subst e; rw [bd]; simp; grind
            · rw [K.low.low r hr l (by omega), bl l (by omega)]; simp
    obtain ⟨c, s', q, k1, k2, k3, k4⟩ := key s h1
    refine ⟨fun t => if t = m then c + p * u d else z t, s', fun l => u l + q l - u d * at_ best l, k1, fun l hl => ?_, fun l hl => ?_⟩
    · dsimp only
      rw [k2 l (by omega)]
      by_cases e : l = d
      · subst e; rw [bd]; omega
      · rw [bl l (by omega), h2 l (by omega)]; omega
    · rw [h3 l hl, SI_succ]
      have : SI m (fun t => (if t = m then c + p * u d else z t) * ent (found ++ [best]) t l) = SI m (fun t => z t * ent found t l) := SI_congr fun t ht => by
        rw [he, if_neg (by omega), if_neg (by omega)]
      rw [this, he, k4 l hl]
      simp only [if_pos]
      grind
theorem boN_ok {R0 : LL} {n p : Nat} (P : Pr p) (h : Low R0 n p n) (m : Nat) (hm : m ≤ n) : BI R0 n p m (boN R0 (timesP n p) n p m).1 (boN R0 (timesP n p) n p m).2 := by
  induction m with
  | zero => exact BI.start h
  | succ m ih =>
    have ih := ih (by omega)
    have e : boN R0 (timesP n p) n p (m + 1) = boSt p (timesP n p) n (n - 1 - m) (boN R0 (timesP n p) n p m) := rfl
    rw [e]
    generalize boN R0 (timesP n p) n p m = st at *
    obtain ⟨f, r⟩ := st
    simp only [boSt] at *
    obtain ⟨k1, k2⟩ := lastUnit_ok r (n - 1 - m) p
    split
    · rename_i e0; exact ih.none P (by omega) (k2 e0)
    · rename_i b e0
      exact ih.some P (by omega) (k1 b e0).1 (k1 b e0).2
theorem ent_reverse (f : LL) (i j : Nat) (h : i < f.length) : ent f.reverse i j = ent f (f.length - 1 - i) j := by
  unfold ent
  simp only [List.getD_eq_getElem?_getD]
  rw [List.getElem?_reverse h]
theorem SI_rev (n : Nat) (f : Nat → Int) : SI n (fun i => f (n - 1 - i)) = SI n f := by
  have shift : ∀ (n : Nat) (g : Nat → Int), SI (n + 1) g = g 0 + SI n (fun i => g (i + 1)) := by
    intro n g
    induction n with
    | zero => rw [SI_succ, SI_zero, SI_zero]; omega
    | succ n ih => rw [SI_succ, ih, SI_succ]; omega
  induction n with
  | zero => rfl
  | succ n ih =>
    rw [shift, SI_succ, ← ih]
    have : SI n (fun i => f (n + 1 - 1 - (i + 1))) = SI n (fun i => f (n - 1 - i)) := SI_congr fun i _ => by congr 1; omega
    rw [this]; simp; omega
/-- a basis of a lattice between p times all and all -/
structure BoOk (R0 C : LL) (n p : Nat) : Prop where
  len : C.length = n
  wid : ∀ r ∈ C, r.length = n
  rng : ∀ d, d < n → ∀ j, 0 ≤ ent C d j ∧ ent C d j ≤ p
  low : ∀ d, d < n → ∀ k, d < k → ent C d k = 0
  diag : ∀ d, d < n → ent C d d = 1 ∨ ent C d d = p
  inW : ∀ d, d < n → W R0 n p (ent C d)
  gen : ∀ x, W R0 n p x → ∃ z : Nat → Int, ∀ l, l < n → x l = SI n fun d => z d * ent C d l
theorem bo_ok {R0 : LL} {n p : Nat} (P : Pr p) (h : Low R0 n p n) : BoOk R0 (bo R0 (timesP n p) n p) n p := by
  have K := boN_ok P h n (Nat.le_refl _)
  unfold bo
  generalize boN R0 (timesP n p) n p n = st at *
  obtain ⟨f, r⟩ := st
  simp only at *
  have hr : ∀ i j, i < n → ent f.reverse i j = ent f (n - 1 - i) j := fun i j hi => by rw [ent_reverse _ _ _ (by rw [K.len]; exact hi), K.len]
  refine ⟨by simp [K.len], fun x hx => K.wid x (List.mem_reverse.mp hx), fun d hd j => ?_, fun d hd k hk => ?_, fun d hd => ?_, fun d hd => ?_, fun x hx => ?_⟩
  · rw [hr _ _ hd]; exact K.fr _ (by omega) j
  · rw [hr _ _ hd]; exact K.fl _ (by omega) k (by omega)
  · rw [hr _ _ hd]
    have := K.fd (n - 1 - d) (by omega)
    have e : n - 1 - (n - 1 - d) = d := by omega
    rwa [e] at this
  · exact (K.fW (n - 1 - d) (by omega)).eq fun l _ => by rw [hr _ _ hd]
  · obtain ⟨z, s, u, h1, h2, h3⟩ := K.gen x hx
    have hs : ∀ l, s l = 0 := fun l => by
      have key : ∀ s, Sp r s → s l = 0 := fun s hs => by
        induction hs with
        | zero => rfl
        | add y r hr _ ih => dsimp only; rw [ih, K.low.low r hr l (by omega)]; simp
      exact key s h1
    refine ⟨fun d => z (n - 1 - d), fun l hl => ?_⟩
    rw [h3 l hl, hs l, h2 l (by omega), ← SI_rev n (fun t => z t * ent f t l)]
    have : SI n (fun d => z (n - 1 - d) * ent f.reverse d l) = SI n (fun i => z (n - 1 - i) * ent f (n - 1 - i) l) := SI_congr fun i hi => by rw [hr _ _ hi]
    rw [this]; simp

/-! ### the triangular basis of a lattice -/
theorem pw_nat (p : Int) (k : Nat) : pw p (k : Int) = p ^ k := by unfold pw; simp
theorem pw_pos {p : Int} (hp : 0 < p) (k : Int) : 0 < pw p k := Int.pow_pos hp
/-- the size of a number below p to the M -/
theorem szF_ok {p : Nat} (P : Pr p) : ∀ (n : Nat) (x : Int), x ≠ 0 → x.natAbs ≤ n → ∃ k : Nat, szF n x p = k ∧ (p : Int) ^ k ∣ x ∧ ¬ (p : Int) ^ (k + 1) ∣ x
  | 0, x, h, hn => by omega
  | n + 1, x, h, hn => by
    have h2 := P.two
    unfold szF
    split
    · rename_i e
      obtain ⟨q, hq⟩ := Int.dvd_of_emod_eq_zero e
      have hq0 : q ≠ 0 := fun z => h (by rw [hq, z]; simp)
      have hqe : x / (p : Int) = q := by rw [hq]; exact Int.mul_ediv_cancel_left _ (by omega)
      rw [hqe]
      have hlt : q.natAbs < x.natAbs := by
        have : x.natAbs = p * q.natAbs := by rw [hq, Int.natAbs_mul]; simp
        have : 2 * q.natAbs ≤ p * q.natAbs := Nat.mul_le_mul_right _ h2
        omega
      obtain ⟨k, k1, k2, k3⟩ := szF_ok P n q hq0 (by omega)
      refine ⟨k + 1, by rw [k1]; omega, ?_, fun hd => k3 ?_⟩
      · rw [hq, Int.pow_succ, Int.mul_comm]; exact Int.mul_dvd_mul (Int.dvd_refl _) k2
      · rw [hq, Int.pow_succ _ (k + 1), Int.mul_comm] at hd
        exact Int.dvd_of_mul_dvd_mul_left (by omega) hd
    · rename_i e
      exact ⟨0, rfl, by simp, fun hd => e (Int.emod_eq_zero_of_dvd (by rw [Int.pow_succ, Int.pow_zero, Int.one_mul] at hd; exact hd))⟩
theorem sz_ok {p : Nat} (P : Pr p) {x : Int} (h : x ≠ 0) : ∃ k : Nat, sz x p = k ∧ (p : Int) ^ k ∣ x ∧ ¬ (p : Int) ^ (k + 1) ∣ x := szF_ok P _ x h (Nat.le_refl _)
theorem pow_dvd {p : Int} {a b : Nat} (h : a ≤ b) : p ^ a ∣ p ^ b := by
  obtain ⟨c, rfl⟩ := Nat.le.dest h
  rw [Int.pow_add]; exact Int.dvd_mul_right _ _
theorem pow_lt {p : Nat} (P : Pr p) {a b : Nat} (h : a < b) : (p : Int) ^ a < (p : Int) ^ b := by
  obtain ⟨c, rfl⟩ := Nat.le.dest h
  have h1 := P.ppos a
  have h2 := P.ppos c
  have h3 := P.two
  rw [Int.pow_add, Int.pow_succ]
  have : (p : Int) ^ a * 2 ≤ (p : Int) ^ a * p := Int.mul_le_mul_of_nonneg_left (by omega) (by omega)
  have h5 : 0 ≤ (p : Int) ^ a * p := by omega
  have : (p : Int) ^ a * p * 1 ≤ (p : Int) ^ a * p * (p : Int) ^ c := Int.mul_le_mul_of_nonneg_left (by omega) h5
  omega
/-- of numbers from 1 below p ^ M the size is below M -/
theorem sz_lt {p : Nat} (P : Pr p) {x : Int} {M k : Nat} (h0 : 0 < x) (h1 : x < (p : Int) ^ M) (h : (p : Int) ^ k ∣ x) : k < M := by
  have h2 := Int.le_of_dvd h0 h
  rcases Nat.lt_or_ge k M with h | h
  · exact h
  · have := Int.le_of_dvd (P.ppos k) (pow_dvd (p := (p : Int)) h)
    omega
theorem best_ok (rows : LL) (d : Nat) (p most : Int) : (∀ b, best rows d p most = some b → b ∈ rows ∧ at_ b d ≠ 0 ∧ ∀ r ∈ rows, at_ r d ≠ 0 → sizeAt b d p most ≤ sizeAt r d p most) ∧ (best rows d p most = none → ∀ r ∈ rows, at_ r d = 0) := by
  have key : ∀ (l : LL) (o : Option L) (pre : LL), (∀ b, o = some b → b ∈ rows ∧ at_ b d ≠ 0 ∧ ∀ r ∈ pre, at_ r d ≠ 0 → sizeAt b d p most ≤ sizeAt r d p most) → (o = none → ∀ r ∈ pre, at_ r d = 0) → (∀ r ∈ l, r ∈ rows) →
      (∀ b, l.foldl (fun b row => if at_ row d ≠ 0 ∧ lessAt row d p most b = true then some row else b) o = some b → b ∈ rows ∧ at_ b d ≠ 0 ∧ ∀ r ∈ pre ++ l, at_ r d ≠ 0 → sizeAt b d p most ≤ sizeAt r d p most) ∧
      (l.foldl (fun b row => if at_ row d ≠ 0 ∧ lessAt row d p most b = true then some row else b) o = none → ∀ r ∈ pre ++ l, at_ r d = 0) := by
    intro l
    induction l with
    | nil => intro o pre h h' _; rw [List.append_nil]; exact ⟨h, h'⟩
    | cons a t ih =>
      intro o pre h h' hs
      rw [List.foldl_cons]
      have ha := hs a List.mem_cons_self
      have ht : ∀ r ∈ t, r ∈ rows := fun r hr => hs r (List.mem_cons_of_mem _ hr)
      have e : pre ++ a :: t = (pre ++ [a]) ++ t := by simp
      rw [e]
      by_cases hc : at_ a d ≠ 0 ∧ lessAt a d p most o = true
      · rw [if_pos hc]
        refine ih (some a) (pre ++ [a]) (fun b eb => ?_) (fun eb => by cases eb) ht
        cases eb
        refine ⟨ha, hc.1, fun r hr h0 => ?_⟩
        rcases List.mem_append.mp hr with hr | hr
        · cases o with
          | none => exact absurd (h' rfl r hr) h0
          | some c =>
            have h1 := (h c rfl).2.2 r hr h0
            have h2 : sizeAt a d p most < sizeAt c d p most := of_decide_eq_true hc.2
            omega
        · rw [List.mem_singleton.mp hr]; omega
      · rw [if_neg hc]
        refine ih o (pre ++ [a]) (fun b eb => ?_) (fun eb r hr => ?_) ht
        · obtain ⟨b1, b2, b3⟩ := h b eb
          refine ⟨b1, b2, fun r hr h0 => ?_⟩
          rcases List.mem_append.mp hr with hr | hr
          · exact b3 r hr h0
          · rw [List.mem_singleton.mp hr] at h0 ⊢
            rw [eb] at hc
            have : ¬ sizeAt a d p most < sizeAt b d p most := fun z => hc ⟨h0, decide_eq_true z⟩
            omega
        · rcases List.mem_append.mp hr with hr | hr
          · exact h' eb r hr
          · rw [List.mem_singleton.mp hr]
            rw [eb] at hc
            exact Decidable.not_not.mp fun z => hc ⟨z, rfl⟩
  obtain ⟨k1, k2⟩ := key rows none [] (fun b e => by cases e) (fun _ r hr => by cases hr) fun r hr => hr
  rw [List.nil_append] at k1 k2
  exact ⟨k1, k2⟩
/-- row t of what is found, over p to the M -/
def fRow (p : Nat) (M : Nat) (f : B) (t l : Nat) : Int := (p : Int) ^ (M - (kOf f t).toNat) * at_ (gOf f t) l
theorem gOf_snoc (f : B) (x : L × Int) (t : Nat) : gOf (f ++ [x]) t = if t = f.length then x.1 else gOf f t := by
  unfold gOf
  simp only [List.getD_eq_getElem?_getD]
  by_cases h : t = f.length
  · subst h; simp
  · rw [if_neg h]
    by_cases h2 : t < f.length
    · rw [List.getElem?_append_left h2]
    · rw [List.getElem?_eq_none (by simp; omega), List.getElem?_eq_none (by omega)]
theorem kOf_snoc (f : B) (x : L × Int) (t : Nat) : kOf (f ++ [x]) t = if t = f.length then x.2 else kOf f t := by
  unfold kOf
  simp only [List.getD_eq_getElem?_getD]
  by_cases h : t = f.length
  · subst h; simp
  · rw [if_neg h]
    by_cases h2 : t < f.length
    · rw [List.getElem?_append_left h2]
    · rw [List.getElem?_eq_none (by simp; omega), List.getElem?_eq_none (by omega)]
/-- one monic row and its power -/
structure GK (p M d : Nat) (g : L) (k : Int) : Prop where
  len : g.length = d + 1
  one : at_ g d = 1
  k0 : 0 ≤ k
  kM : k ≤ M
  rng : ∀ j, j < d → 0 ≤ at_ g j ∧ at_ g j < (p : Int) ^ k.toNat
/-- the state of triangular's loop behind m turns -/
structure TI (R0 : LL) (n p M m : Nat) (found : B) (rows : LL) : Prop where
  len : found.length = m
  low : Low rows n ((p : Int) ^ M) (n - m)
  inW : ∀ r ∈ rows, W R0 n ((p : Int) ^ M) (at_ r)
  gk : ∀ t, t < m → GK p M (n - 1 - t) (gOf found t) (kOf found t)
  fW : ∀ t, t < m → W R0 n ((p : Int) ^ M) (fRow p M found t)
  gen : ∀ x, W R0 n ((p : Int) ^ M) x → ∃ (z s u : Nat → Int), Sp rows s ∧ (∀ l, n - m ≤ l → u l = 0) ∧ ∀ l, l < n → x l = SI m (fun t => z t * fRow p M found t l) + s l + (p : Int) ^ M * u l
theorem TI.start {R0 R1 : LL} {n p M : Nat} (P : Pr p) (hw : ∀ r ∈ R0, r.length = n) (e : R1 = R0.map fun row => row.map (· % (p : Int) ^ M)) : TI R0 n p M 0 [] R1 where
  len := rfl
  low := ⟨fun r hr => by subst e; obtain ⟨r0, h, rfl⟩ := List.mem_map.mp hr; simp [hw r0 h], fun r hr j => by
      subst e
      obtain ⟨r0, h, rfl⟩ := List.mem_map.mp hr
      rw [at_map _ _ (by simp)]
      exact ⟨Int.emod_nonneg _ (by have := P.ppos M; omega), Int.emod_lt_of_pos _ (P.ppos M)⟩, fun r hr j hj => by
      subst e
      obtain ⟨r0, h, rfl⟩ := List.mem_map.mp hr
      exact at_ge (by simp [hw r0 h]; omega)⟩
  inW := fun r hr => by
    subst e
    obtain ⟨r0, h, rfl⟩ := List.mem_map.mp hr
    exact (W.ofSp (Sp.mem h)).cast fun l _ => by rw [at_map _ _ (by simp)]; exact dvd_emod _ _
  gk := fun t ht => by omega
  fW := fun t ht => by omega
  gen := fun x hx => by
    obtain ⟨s, h1, h2⟩ := hx
    have key : ∀ s, Sp R0 s → ∃ s' q : Nat → Int, Sp R1 s' ∧ ∀ l, s l = s' l + (p : Int) ^ M * q l := by
      intro s hs
      induction hs with
      | zero => exact ⟨_, fun _ => 0, Sp.zero, fun l => by simp⟩
      | add y r hr _ ih =>
        obtain ⟨s', q, i1, i2⟩ := ih
        refine ⟨_, fun l => q l + y * (at_ r l / (p : Int) ^ M), i1.add y (r.map (· % (p : Int) ^ M)) (by subst e; exact List.mem_map_of_mem hr), fun l => ?_⟩
        dsimp only
        rw [i2 l, at_map _ _ (by simp)]
        have := Int.mul_ediv_add_emod (at_ r l) ((p : Int) ^ M)
        grind
    obtain ⟨s', q, k1, k2⟩ := key s h1
    refine ⟨fun _ => 0, s', fun l => if l < n then q l + (x l - s l) / (p : Int) ^ M else 0, k1, fun l hl => if_neg (by omega), fun l hl => ?_⟩
    simp only [if_pos hl]
    have := Int.mul_ediv_cancel' (h2 l hl)
    have := k2 l
    rw [SI_zero]
    grind
theorem TI.none {R0 rows : LL} {n p M m : Nat} {found : B} (P : Pr p) (K : TI R0 n p M m found rows) (hm : m < n) (h : ∀ r ∈ rows, at_ r (n - 1 - m) = 0) :
    TI R0 n p M (m + 1) (found ++ [(zeros (n - 1 - m) ++ [1], 0)]) rows := by
  have hp := P.pos
  have aZ : ∀ j, at_ (zeros (n - 1 - m) ++ [1]) j = if j = n - 1 - m then 1 else 0 := fun j => by
    rw [at_append, len_zeros, at_zeros]
    by_cases h1 : j < n - 1 - m
    · rw [if_pos h1, if_neg (by omega)]
    · rw [if_neg h1]
      by_cases h2 : j = n - 1 - m
      · subst h2; simp [at_]
      · rw [if_neg h2, at_ge (by simp; omega)]
  have he : ∀ t l, fRow p M (found ++ [(zeros (n - 1 - m) ++ [1], 0)]) t l = if t = m then (p : Int) ^ M * (if l = n - 1 - m then 1 else 0) else fRow p M found t l := fun t l => by
    unfold fRow
    rw [gOf_snoc, kOf_snoc, K.len]
    split
    · rw [aZ]; simp
    · rfl
  refine ⟨by simp [K.len], ⟨K.low.wid, K.low.rng, fun r hr j hj => ?_⟩, K.inW, fun t ht => ?_, fun t ht => ?_, fun x hx => ?_⟩
  · by_cases e : j = n - 1 - m
    · subst e; exact h r hr
    · exact K.low.low r hr j (by omega)
  · rw [gOf_snoc, kOf_snoc, K.len]
    by_cases e : t = m
    · rw [if_pos e, if_pos e, e]
      exact ⟨by simp [len_zeros], by rw [aZ, if_pos rfl], by simp, by simp, fun j hj => by rw [aZ, if_neg (by omega)]; simp⟩
    · rw [if_neg e, if_neg e]; exact K.gk t (by omega)
  · by_cases e : t = m
    · refine W.ofN fun l _ => ?_
      rw [he, if_pos e]; exact Int.dvd_mul_right _ _
    · exact (K.fW t (by omega)).eq fun l _ => by rw [he, if_neg e]
  · obtain ⟨z, s, u, h1, h2, h3⟩ := K.gen x hx
    refine ⟨fun t => if t = m then u (n - 1 - m) else z t, s, fun l => if l = n - 1 - m then 0 else u l, h1, fun l hl => ?_, fun l hl => ?_⟩
    · dsimp only; split
      · rfl
      · exact h2 l (by omega)
    · rw [h3 l hl, SI_succ]
      have : SI m (fun t => (if t = m then u (n - 1 - m) else z t) * fRow p M (found ++ [(zeros (n - 1 - m) ++ [1], 0)]) t l) = SI m (fun t => z t * fRow p M found t l) := SI_congr fun t ht => by
        rw [he, if_neg (by omega), if_neg (by omega)]
      rw [this, he]
      simp only [if_pos]
      by_cases e : l = n - 1 - m
      · subst e; simp only [if_pos]; grind
      · simp only [if_neg e]; grind
/-- what is exact: where all numbers at d are divided, all are -/
def Exact (R0 : LL) (n p M : Nat) : Prop := ∀ d, d < n → ∀ a, a ≤ M → (∀ x, W R0 n ((p : Int) ^ M) x → (∀ l, d < l → l < n → x l = 0) → (p : Int) ^ a ∣ x d) →
  ∀ x, W R0 n ((p : Int) ^ M) x → (∀ l, d < l → l < n → x l = 0) → ∀ l, l < n → (p : Int) ^ a ∣ x l
theorem fRow_tri {p M n m : Nat} {found : B} (P : Pr p) (h : ∀ t, t < m → GK p M (n - 1 - t) (gOf found t) (kOf found t)) (hm : m ≤ n) {z : Nat → Int} (hz : ∀ l, n - m ≤ l → l < n → SI m (fun t => z t * fRow p M found t l) = 0) : ∀ t, t < m → z t = 0 := by
  have key : ∀ k, k ≤ m → ∀ t, t < k → z t = 0 := by
    intro k
    induction k with
    | zero => intro _ t ht; omega
    | succ k ih =>
      intro hk t ht
      have ih := ih (by omega)
      by_cases e : t = k
      · have h1 := hz (n - 1 - k) (by omega) (by omega)
        rw [SI_one (k := k) (by omega) fun i hi hik => ?_] at h1
        · unfold fRow at h1
          rw [(h k (by omega)).one] at h1
          rcases Int.mul_eq_zero.mp h1 with h2 | h2
          · rw [e]; exact h2
          · have := P.ppos (M - (kOf found k).toNat); omega
        · by_cases hlt : i < k
          · rw [ih i hlt]; simp
          · unfold fRow
            rw [at_ge (by rw [(h i hi).len]; omega)]; simp
      · exact ih t (by omega)
  exact key m (Nat.le_refl _)
theorem at_clr (row : L) (d : Nat) (a p big : Int) (other : L) (j : Nat) : at_ (clrRow row d a p big other) j = if j < d then (at_ other j - at_ other d / pw p a * at_ row j) % big else 0 := by
  unfold clrRow; exact at_tab _ _ _
theorem TI.some {R0 rows : LL} {n p M m : Nat} {found : B} (P : Pr p) (X : Exact R0 n p M) (K : TI R0 n p M m found rows) (hm : m < n) {b : L} (hb : b ∈ rows) (h0 : at_ b (n - 1 - m) ≠ 0)
    (hbest : ∀ r ∈ rows, at_ r (n - 1 - m) ≠ 0 → sizeAt b (n - 1 - m) p M ≤ sizeAt r (n - 1 - m) p M) :
    TI R0 n p M (m + 1) (found ++ [(tab (n - 1 - m) (fun k => at_ (lifted b (n - 1 - m) (sizeAt b (n - 1 - m) p M) p (pw p M)) k / pw p (sizeAt b (n - 1 - m) p M)) ++ [1], M - sizeAt b (n - 1 - m) p M)])
      (cleared rows (lifted b (n - 1 - m) (sizeAt b (n - 1 - m) p M) p (pw p M)) (n - 1 - m) (sizeAt b (n - 1 - m) p M) p (pw p M)) := by
  have hp := P.pos
  have h2 := P.two
  generalize hd : n - 1 - m = d at *
  have hdn : d < n := by omega
  have hpM := P.ppos M
  rw [pw_nat]
  -- the size
  obtain ⟨a, ha, hda, hna⟩ := sz_ok P h0
  have hbr := K.low.rng b hb d
  have haM : a < M := sz_lt P (by omega) hbr.2 hda
  have hsz : sizeAt b d p M = a := by unfold sizeAt; rw [if_neg h0, ha]; omega
  rw [hsz] at hbest ⊢
  have hpa := P.ppos a
  have hall : ∀ r ∈ rows, (p : Int) ^ a ∣ at_ r d := fun r hr => by
    by_cases e : at_ r d = 0
    · rw [e]; exact Int.dvd_zero _
    · have h3 := hbest r hr e
      obtain ⟨c, hc, hdc, _⟩ := sz_ok P e
      have : sizeAt r d p M ≤ c := by unfold sizeAt; rw [if_neg e, hc]; omega
      exact Int.dvd_trans (pow_dvd (by omega)) hdc
  have hpwa : pw (p : Int) (a : Int) = (p : Int) ^ a := pw_nat _ _
  -- the unit
  obtain ⟨unit, hu⟩ := hda
  have hunit : at_ b d / (p : Int) ^ a = unit := by rw [hu]; exact Int.mul_ediv_cancel_left _ (by omega)
  have hup : ¬ (p : Int) ∣ unit := fun q => hna (by rw [hu, Int.pow_succ]; exact Int.mul_dvd_mul (Int.dvd_refl _) q)
  have hinv := inv_pk P M hup
  generalize hrow : lifted b d a p ((p : Int) ^ M) = row at *
  have aR : ∀ j, at_ row j = at_ b j * inv unit ((p : Int) ^ M) % (p : Int) ^ M := fun j => by
    rw [← hrow]; unfold lifted; rw [hpwa, hunit, at_map _ _ (by simp)]
  generalize inv unit ((p : Int) ^ M) = i at *
  have rd : at_ row d = (p : Int) ^ a := by
    rw [aR, hu]
    have e1 : (p : Int) ^ a * unit * i % (p : Int) ^ M = (p : Int) ^ a % (p : Int) ^ M := Int.emod_eq_emod_iff_emod_sub_eq_zero.mpr (Int.emod_eq_zero_of_dvd (by
      have : (p : Int) ^ a * unit * i - (p : Int) ^ a = (p : Int) ^ a * (i * unit - 1) := by grind
      rw [this]; exact Int.dvd_mul_of_dvd_right hinv))
    rw [e1]; exact Int.emod_eq_of_lt (by omega) (pow_lt P haM)
  have rl : ∀ j, d < j → at_ row j = 0 := fun j hj => by rw [aR, K.low.low b hb j (by omega)]; simp
  have rr : ∀ j, 0 ≤ at_ row j ∧ at_ row j < (p : Int) ^ M := fun j => by rw [aR]; exact ⟨Int.emod_nonneg _ (by omega), Int.emod_lt_of_pos _ hpM⟩
  have rw_ : row.length = n := by rw [← hrow]; unfold lifted; simp [K.low.wid b hb]
  have rW : W R0 n ((p : Int) ^ M) (at_ row) := ((K.inW b hb).scale i).cast fun l hl => by
    rw [aR, Int.mul_comm i]; exact dvd_emod _ _
  -- exactness
  have hX := X d hdn a (by omega) (fun x hx hx0 => by
    obtain ⟨z, s, u, h1, h2', h3⟩ := K.gen x hx
    have hs : ∀ s, Sp rows s → (p : Int) ^ a ∣ s d ∧ ∀ l, d < l → s l = 0 := fun s hs => by
      induction hs with
      | zero => exact ⟨Int.dvd_zero _, fun _ _ => rfl⟩
      | add y r hr _ ih => exact ⟨Int.dvd_add ih.1 (Int.dvd_mul_of_dvd_right (hall r hr)), fun l hl => by dsimp only; rw [ih.2 l hl, K.low.low r hr l (by omega)]; simp⟩
    have hz := fRow_tri P K.gk (by omega) (z := z) fun l hl1 hl2 => by
      have := h3 l hl2
      rw [hx0 l (by omega) hl2, (hs s h1).2 l (by omega), h2' l hl1] at this
      omega
    rw [h3 d hdn, SI_z fun t ht => by rw [hz t ht]; simp]
    have e1 : (0 : Int) + s d + (p : Int) ^ M * u d = s d + (p : Int) ^ M * u d := by omega
    rw [e1]
    exact Int.dvd_add (hs s h1).1 (Int.dvd_mul_of_dvd_left (pow_dvd (by omega))))
  have rx : ∀ l, (p : Int) ^ a ∣ at_ row l := fun l => by
    by_cases hl : l < n
    · exact hX _ rW (fun l h1 _ => rl l h1) l hl
    · rw [at_ge (by omega)]; exact Int.dvd_zero _
  -- what is found
  have kM : ((M : Int) - (a : Int)) = ((M - a : Nat) : Int) := by omega
  have aG : ∀ j, at_ (tab d (fun k => at_ row k / pw p a) ++ [1]) j = if j < d then at_ row j / (p : Int) ^ a else if j = d then 1 else 0 := fun j => by
    rw [at_append, len_tab, at_tab, hpwa]
    split
    · rfl
    · split
      · rename_i e; rw [e]; simp [at_]
      · rw [at_ge (by simp; omega)]
  have he : ∀ t l, fRow p M (found ++ [(tab d (fun k => at_ row k / pw p a) ++ [1], (M : Int) - a)]) t l = if t = m then at_ row l else fRow p M found t l := fun t l => by
    unfold fRow
    rw [gOf_snoc, kOf_snoc, K.len]
    by_cases e : t = m
    · rw [if_pos e, if_pos e, if_pos e, aG, kM]
      have : M - ((M - a : Nat) : Int).toNat = a := by simp; omega
      rw [this]
      split
      · exact Int.mul_ediv_cancel' (rx l)
      · split
        · rename_i e; rw [e, rd]; omega
        · rw [rl l (by omega)]; simp
    · rw [if_neg e, if_neg e, if_neg e]
  have hlow : ∀ other, (clrRow row d a p ((p : Int) ^ M) other ++ zeros (row.length - d)).length = n := fun other => by simp [clrRow, len_tab, len_zeros, rw_]; omega
  have hat : ∀ other j, at_ (clrRow row d a p ((p : Int) ^ M) other ++ zeros (row.length - d)) j = at_ (clrRow row d a p ((p : Int) ^ M) other) j := fun other j => by
    rw [at_append]
    split
    · rfl
    · rw [at_zeros, at_ge (by omega)]
  have hcl : ∀ other, other ∈ rows → ∀ l, l < n → at_ other l = at_ (clrRow row d a p ((p : Int) ^ M) other) l + (at_ other d / (p : Int) ^ a) * at_ row l + (p : Int) ^ M * (if l < d then (at_ other l - at_ other d / (p : Int) ^ a * at_ row l) / (p : Int) ^ M else 0) := fun other ho l hl => by
    rw [at_clr, hpwa]
    by_cases h5 : l < d
    · rw [if_pos h5, if_pos h5]
      have := Int.mul_ediv_add_emod (at_ other l - at_ other d / (p : Int) ^ a * at_ row l) ((p : Int) ^ M)
      omega
    · rw [if_neg h5, if_neg h5]
      by_cases h6 : l = d
      · rw [h6, rd, Int.ediv_mul_cancel (hall other ho)]; simp
      · rw [rl l (by omega), K.low.low other ho l (by omega)]; simp
  have hmem : ∀ r, r ∈ cleared rows row d a p ((p : Int) ^ M) → ∃ other, other ∈ rows ∧ r = clrRow row d a p ((p : Int) ^ M) other ++ zeros (row.length - d) := fun r hr => by
    unfold cleared at hr
    obtain ⟨o, h1, rfl⟩ := List.mem_map.mp hr
    exact ⟨o, (List.mem_filter.mp h1).1, rfl⟩
  refine ⟨by simp [K.len], ⟨fun r hr => ?_, fun r hr j => ?_, fun r hr j hj => ?_⟩, fun r hr => ?_, fun t ht => ?_, fun t ht => ?_, fun x hx => ?_⟩
  · obtain ⟨o, ho, rfl⟩ := hmem r hr; exact hlow o
  · obtain ⟨o, ho, rfl⟩ := hmem r hr
    rw [hat, at_clr]
    split
    · exact ⟨Int.emod_nonneg _ (by omega), Int.emod_lt_of_pos _ hpM⟩
    · omega
  · obtain ⟨o, ho, rfl⟩ := hmem r hr
    rw [hat, at_clr, if_neg (by omega)]
  · obtain ⟨o, ho, rfl⟩ := hmem r hr
    refine ((K.inW o ho).sum (rW.scale (-(at_ o d / (p : Int) ^ a)))).cast fun l hl => ?_
    rw [hat]
    have := hcl o ho l hl
    exact ⟨-(if l < d then (at_ o l - at_ o d / (p : Int) ^ a * at_ row l) / (p : Int) ^ M else 0), by grind⟩
  · rw [gOf_snoc, kOf_snoc, K.len]
    by_cases e : t = m
    · rw [if_pos e, if_pos e, e]
      refine ⟨by simp [len_tab]; omega, by rw [aG, if_neg (by omega), if_pos (by omega)], by omega, by omega, fun j hj => ?_⟩
      rw [aG, if_pos (by omega), kM]
      have hq := Int.mul_ediv_cancel' (rx j)
      have e3 : ((M - a : Nat) : Int).toNat = M - a := by simp
      rw [e3]
      have e4 : (p : Int) ^ M = (p : Int) ^ a * (p : Int) ^ (M - a) := by rw [← Int.pow_add]; congr 1; omega
      have h5 := rr j
      rw [e4] at h5
      refine ⟨Int.ediv_nonneg h5.1 (by omega), ?_⟩
      exact Int.ediv_lt_of_lt_mul hpa (by rw [Int.mul_comm]; exact h5.2)
    · rw [if_neg e, if_neg e]; exact K.gk t (by omega)
  · by_cases e : t = m
    · exact rW.eq fun l _ => by rw [he, if_pos e]
    · exact (K.fW t (by omega)).eq fun l _ => by rw [he, if_neg e]
  · obtain ⟨z, s, u, h1, h2', h3⟩ := K.gen x hx
    have key : ∀ s, Sp rows s → ∃ (c : Int) (s' q : Nat → Int), Sp (cleared rows row d a p ((p : Int) ^ M)) s' ∧ (∀ l, d ≤ l → q l = 0) ∧ ∀ l, l < n → s l = s' l + c * at_ row l + (p : Int) ^ M * q l := by
      intro s hs
      induction hs with
      | zero => exact ⟨0, _, fun _ => 0, Sp.zero, fun _ _ => rfl, fun l _ => by simp⟩
      | add y r hr _ ih =>
        obtain ⟨c, s', q, i1, i2, i3⟩ := ih
        have hsp : ∃ s'', Sp (cleared rows row d a p ((p : Int) ^ M)) s'' ∧ ∀ l, s'' l = s' l + y * at_ (clrRow row d a p ((p : Int) ^ M) r) l := by
          by_cases hany : (clrRow row d a p ((p : Int) ^ M) r).any (· ≠ 0) = true
          · refine ⟨_, i1.add y (clrRow row d a p ((p : Int) ^ M) r ++ zeros (row.length - d)) ?_, fun l => by rw [hat]⟩
            unfold cleared
            exact List.mem_map.mpr ⟨r, List.mem_filter.mpr ⟨hr, hany⟩, rfl⟩
          · refine ⟨s', i1, fun l => ?_⟩
            have : at_ (clrRow row d a p ((p : Int) ^ M) r) l = 0 := by
              have hany' : (clrRow row d a p ((p : Int) ^ M) r).any (· ≠ 0) = false := by simpa using hany
              rw [List.any_eq_false] at hany'
              unfold at_
              rw [List.getD_eq_getElem?_getD]
              by_cases hl : l < (clrRow row d a p ((p : Int) ^ M) r).length
              · rw [List.getElem?_eq_getElem hl]
                have := hany' _ (List.getElem_mem hl)
                simpa using this
              · rw [List.getElem?_eq_none (by omega)]; rfl
            rw [this]; omega
        obtain ⟨s'', j1, j2⟩ := hsp
        refine ⟨c + y * (at_ r d / (p : Int) ^ a), s'', fun l => q l + y * (if l < d then (at_ r l - at_ r d / (p : Int) ^ a * at_ row l) / (p : Int) ^ M else 0), j1, fun l hl => ?_, fun l hl => ?_⟩
        · dsimp only; rw [i2 l hl, if_neg (by omega)]; omega
        · dsimp only
          rw [i3 l hl, j2]
          have := hcl r hr l hl
          grind
    obtain ⟨c, s', q, k1, k2, k3⟩ := key s h1
    -- the multiples of p ^ M at d are multiples of the row, exact
    have e4 : (p : Int) ^ M = (p : Int) ^ (M - a) * (p : Int) ^ a := by rw [← Int.pow_add]; congr 1; omega
    refine ⟨fun t => if t = m then c + (p : Int) ^ (M - a) * u d else z t, s', fun l => u l + q l - u d * (at_ row l / (p : Int) ^ a), k1, fun l hl => ?_, fun l hl => ?_⟩
    · dsimp only
      rw [k2 l (by omega)]
      by_cases e : l = d
      · rw [e, rd, Int.ediv_self (by omega)]; omega
      · rw [rl l (by omega), h2' l (by omega)]; simp
    · rw [h3 l hl, SI_succ]
      have : SI m (fun t => (if t = m then c + (p : Int) ^ (M - a) * u d else z t) * fRow p M (found ++ [(tab d (fun k => at_ row k / pw p a) ++ [1], (M : Int) - a)]) t l) = SI m (fun t => z t * fRow p M found t l) := SI_congr fun t ht => by
        rw [he, if_neg (by omega), if_neg (by omega)]
      rw [this, he, k3 l hl]
      simp only [if_pos]
      have h6 := Int.mul_ediv_cancel' (rx l)
      generalize at_ row l / (p : Int) ^ a = w at *
      rw [← h6, e4]
      grind
theorem triN_ok {R0 : LL} {n p M : Nat} (P : Pr p) (hw : ∀ r ∈ R0, r.length = n) (X : Exact R0 n p M) (m : Nat) (hm : m ≤ n) : TI R0 n p M m (triN R0 n p M m).1 (triN R0 n p M m).2 := by
  induction m with
  | zero => exact TI.start P hw (by show R0.map (fun row => row.map (· % pw p M)) = _; rw [pw_nat])
  | succ m ih =>
    have ih := ih (by omega)
    have e : triN R0 n p M (m + 1) = triSt p M (n - 1 - m) (triN R0 n p M m) := rfl
    rw [e]
    generalize triN R0 n p M m = st at *
    obtain ⟨f, r⟩ := st
    simp only [triSt] at *
    obtain ⟨k1, k2⟩ := best_ok r (n - 1 - m) p M
    split
    · rename_i e0; exact ih.none P (by omega) (k2 e0)
    · rename_i b e0
      obtain ⟨q1, q2, q3⟩ := k1 b e0
      exact ih.some P X (by omega) q1 q2 q3
/-- a triangular basis over powers of p -/
structure TrOk (R0 : LL) (n p M : Nat) (b : B) : Prop where
  len : b.length = n
  gk : ∀ d, d < n → GK p M d (gOf b d) (kOf b d)
  inW : ∀ d, d < n → W R0 n ((p : Int) ^ M) (fRow p M b d)
  gen : ∀ x, W R0 n ((p : Int) ^ M) x → ∃ z : Nat → Int, ∀ l, l < n → x l = SI n fun d => z d * fRow p M b d l
theorem tri_ok {R0 : LL} {n p M : Nat} (P : Pr p) (hw : ∀ r ∈ R0, r.length = n) (X : Exact R0 n p M) : TrOk R0 n p M (tri R0 n p M) := by
  have K := triN_ok P hw X n (Nat.le_refl _)
  unfold tri
  generalize triN R0 n p M n = st at *
  obtain ⟨f, r⟩ := st
  simp only at *
  have hr : ∀ i, i < n → f.reverse.getD i ([], 0) = f.getD (n - 1 - i) ([], 0) := fun i hi => by
    simp only [List.getD_eq_getElem?_getD]
    rw [List.getElem?_reverse (by rw [K.len]; exact hi), K.len]
  have hg : ∀ i, i < n → gOf f.reverse i = gOf f (n - 1 - i) := fun i hi => by unfold gOf; rw [hr i hi]
  have hk : ∀ i, i < n → kOf f.reverse i = kOf f (n - 1 - i) := fun i hi => by unfold kOf; rw [hr i hi]
  have hf : ∀ i l, i < n → fRow p M f.reverse i l = fRow p M f (n - 1 - i) l := fun i l hi => by unfold fRow; rw [hg i hi, hk i hi]
  refine ⟨by simp [K.len], fun d hd => ?_, fun d hd => ?_, fun x hx => ?_⟩
  · rw [hg d hd, hk d hd]
    have := K.gk (n - 1 - d) (by omega)
    have e : n - 1 - (n - 1 - d) = d := by omega
    rwa [e] at this
  · exact (K.fW (n - 1 - d) (by omega)).eq fun l _ => by rw [hf _ _ hd]
  · obtain ⟨z, s, u, h1, h2, h3⟩ := K.gen x hx
    have hs : ∀ l, s l = 0 := fun l => by
      have key : ∀ s, Sp r s → s l = 0 := fun s hs => by
        induction hs with
        | zero => rfl
        | add y r hr _ ih => dsimp only; rw [ih, K.low.low r hr l (by omega)]; simp
      exact key s h1
    refine ⟨fun d => z (n - 1 - d), fun l hl => ?_⟩
    rw [h3 l hl, hs l, h2 l (by omega), ← SI_rev n (fun t => z t * fRow p M f t l)]
    have : SI n (fun d => z (n - 1 - d) * fRow p M f.reverse d l) = SI n (fun i => z (n - 1 - i) * fRow p M f (n - 1 - i) l) := SI_congr fun i hi => by rw [hf _ _ hi]
    rw [this]; simp
end Bd
set_option linter.all false
namespace Bd
/-! ### plain facts that the walk asks -/
theorem szF_fuel {p : Int} (hp : 2 ≤ p) : ∀ (n m : Nat) (x : Int), x ≠ 0 → x.natAbs ≤ n → x.natAbs ≤ m → szF n x p = szF m x p
  | 0, _, x, h, h1, _ => by omega
  | _ + 1, 0, x, h, _, h1 => by omega
  | n + 1, m + 1, x, h, h1, h2 => by
    unfold szF
    split
    · rename_i e
      obtain ⟨q, hq⟩ := Int.dvd_of_emod_eq_zero e
      have hqe : x / p = q := by rw [hq]; exact Int.mul_ediv_cancel_left _ (by omega)
      have hq0 : q ≠ 0 := fun z => h (by rw [hq, z]; simp)
      have hlt : q.natAbs < x.natAbs := by
        have h3 : x.natAbs = p.natAbs * q.natAbs := by rw [hq, Int.natAbs_mul]
        have h4 : 2 * q.natAbs ≤ p.natAbs * q.natAbs := Nat.mul_le_mul_right _ (by omega)
        omega
      rw [hqe, szF_fuel hp n m q hq0 (by omega) (by omega)]
    · rfl
theorem sz_yes {p x : Int} (hp : 2 ≤ p) (h : x ≠ 0) (e : x % p = 0) : sz x p = 1 + sz (x / p) p ∧ x / p ≠ 0 ∧ (x / p).natAbs < x.natAbs := by
  obtain ⟨q, hq⟩ := Int.dvd_of_emod_eq_zero e
  have hqe : x / p = q := by rw [hq]; exact Int.mul_ediv_cancel_left _ (by omega)
  have hq0 : q ≠ 0 := fun z => h (by rw [hq, z]; simp)
  have hlt : q.natAbs < x.natAbs := by
    have h3 : x.natAbs = p.natAbs * q.natAbs := by rw [hq, Int.natAbs_mul]
    have h4 : 2 * q.natAbs ≤ p.natAbs * q.natAbs := Nat.mul_le_mul_right _ (by omega)
    omega
  refine ⟨?_, by rw [hqe]; exact hq0, by rw [hqe]; exact hlt⟩
  unfold sz
  obtain ⟨m, hm⟩ : ∃ m, x.natAbs = m + 1 := ⟨x.natAbs - 1, by omega⟩
  rw [hm]
  show (if x % p = 0 then 1 + szF m (x / p) p else 0) = _
  rw [if_pos e, hqe, szF_fuel hp m q.natAbs q hq0 (by omega) (Nat.le_refl _)]
theorem sz_no {p x : Int} (e : x % p ≠ 0) : sz x p = 0 := by
  unfold sz
  cases x.natAbs with
  | zero => rfl
  | succ m => show (if x % p = 0 then _ else 0) = _; rw [if_neg e]
theorem sz_pos {p x : Int} (hp : 2 ≤ p) : 0 ≤ sz x p := by
  unfold sz
  generalize x.natAbs = n
  induction n generalizing x with
  | zero => exact Int.le_refl _
  | succ n ih =>
    unfold szF
    split
    · have := ih (x := x / p); omega
    · omega
theorem invF_fuel : ∀ (n m : Nat) (one other h t : Int), 0 ≤ one → 0 ≤ other → other.toNat < n → other.toNat < m → invF n one other h t = invF m one other h t
  | 0, _, _, _, _, _, _, _, h, _ => by omega
  | _ + 1, 0, _, _, _, _, _, _, _, h => by omega
  | n + 1, m + 1, one, other, h, t, h1, h2, h3, h4 => by
    unfold invF
    split
    · rfl
    · rename_i e
      have em : one - one / other * other = one % other := by have := Int.mul_ediv_add_emod one other; rw [Int.mul_comm]; omega
      have r0 := Int.emod_nonneg one e
      have r1 := Int.emod_lt_of_pos one (show 0 < other by omega)
      exact invF_fuel n m other (one - one / other * other) t (h - one / other * t) h2 (by omega) (by omega) (by omega)
/-- how far the numbers of inverse's loop go -/
structure InvJ (m one other h t : Int) : Prop where
  o0 : 0 ≤ one
  o1 : 0 ≤ other
  ob : one ≤ m ∧ other ≤ m
  sg : h * t ≤ 0
  su : one * t.natAbs + other * h.natAbs ≤ m
  hb : (h.natAbs : Int) ≤ m
  tb : (t.natAbs : Int) ≤ m
theorem InvJ.start {x m : Int} (hm : 0 < m) : InvJ m (x % m) m 1 0 := by
  have r0 := Int.emod_nonneg x (show m ≠ 0 by omega)
  have r1 := Int.emod_lt_of_pos x hm
  exact ⟨r0, by omega, by omega, by omega, by simp, by simp; omega, by simp; omega⟩
theorem InvJ.next {m one other h t : Int} (J : InvJ m one other h t) (hne : other ≠ 0) : InvJ m other (one - one / other * other) t (h - one / other * t) ∧ 0 ≤ one - one / other * other ∧ (one - one / other * other) < other ∧ 0 ≤ one / other ∧ one / other ≤ m := by
  obtain ⟨o0, o1, ob, sg, su, hb, tb⟩ := J
  have em : one - one / other * other = one % other := by have := Int.mul_ediv_add_emod one other; rw [Int.mul_comm]; omega
  have r0 := Int.emod_nonneg one hne
  have r1 := Int.emod_lt_of_pos one (show 0 < other by omega)
  have q0 : 0 ≤ one / other := Int.ediv_nonneg o0 o1
  have q1 : one / other ≤ one := Int.ediv_le_self _ o0
  have e1 := Int.mul_ediv_add_emod one other
  generalize hq : one / other = q at *
  have sg' : t * (h - q * t) ≤ 0 := by
    have h1 : 0 ≤ q * (t * t) := Int.mul_nonneg q0 (by rcases Int.le_total 0 t with h | h; exact Int.mul_nonneg h h; exact Int.mul_nonneg_of_nonpos_of_nonpos h h)
    have h2 : t * (h - q * t) = h * t - q * (t * t) := by grind
    omega
  have ab : ((h - q * t).natAbs : Int) = h.natAbs + q * t.natAbs := by
    have h3 : ((q * t).natAbs : Int) = q * t.natAbs := by rw [Int.natAbs_mul]; simp; rw [Int.natAbs_of_nonneg q0]
    rcases Int.lt_trichotomy t 0 with ht | ht | ht
    · have hh : 0 ≤ h := by
        by_cases c : h < 0
        · have := Int.mul_pos_of_neg_of_neg c ht; omega
        · omega
      have hqt : q * t ≤ 0 := Int.mul_nonpos_of_nonneg_of_nonpos q0 (by omega)
      omega
    · subst ht; simp
    · have hh : h ≤ 0 := by
        by_cases c : 0 < h
        · have := Int.mul_pos c ht; omega
        · omega
      have hqt : 0 ≤ q * t := Int.mul_nonneg q0 (by omega)
      omega
  have su' : other * ((h - q * t).natAbs : Int) + (one - q * other) * t.natAbs ≤ m := by
    have h4 : other * ((h - q * t).natAbs : Int) + (one - q * other) * t.natAbs = one * t.natAbs + other * h.natAbs := by rw [ab]; grind
    omega
  have tb' : ((h - q * t).natAbs : Int) ≤ m := by
    have h5 : 0 ≤ (one - q * other) * (t.natAbs : Int) := Int.mul_nonneg (by omega) (by omega)
    have h6 : 1 * ((h - q * t).natAbs : Int) ≤ other * ((h - q * t).natAbs : Int) := Int.mul_le_mul_of_nonneg_right (by omega) (by omega)
    omega
  refine ⟨⟨o1, by omega, by omega, sg', su', tb, tb'⟩, by omega, by omega, q0, by omega⟩
theorem trim_snoc (a : L) : trim (a ++ [0]) = trim a := by
  refine trim_eq ?_ (fun j => ?_) (trim_last a)
  · have := trim_le a; simp; omega
  · rw [at_trim, at_append]
    split
    · rfl
    · rename_i h
      rw [at_ge (by omega)]
      cases j - a.length with
      | zero => rfl
      | succ k => simp [at_]
theorem trim_take {l : L} {k : Nat} (hk : k < l.length) (h0 : at_ l k = 0) : trim (l.take (k + 1)) = trim (l.take k) := by
  have e : l.take (k + 1) = l.take k ++ [0] := by
    rw [List.take_add_one, List.getElem?_eq_getElem hk]
    have : l[k] = at_ l k := by unfold at_; rw [List.getD_eq_getElem?_getD, List.getElem?_eq_getElem hk]; rfl
    rw [this, h0]; rfl
  rw [e, trim_snoc]
theorem trim_done {l : L} {k : Nat} (hk : k < l.length) (h0 : at_ l k ≠ 0) : trim (l.take (k + 1)) = l.take (k + 1) := by
  refine trim_eq (Nat.le_refl _) (fun _ => rfl) (.inr ?_)
  have e : (l.take (k + 1)).length - 1 = k := by rw [List.length_take]; omega
  rw [e, at_take, if_pos (by omega)]; exact h0
/-- numbers below 2 ^ N in size -/
def Bn (N : Nat) (f : L) : Prop := ∀ k, (at_ f k).natAbs ≤ 2 ^ N
theorem Bn.mono {N M : Nat} {f : L} (h : Bn N f) (hm : N ≤ M) : Bn M f := fun k => Nat.le_trans (h k) (Nat.pow_le_pow_right (by omega) hm)
theorem Bn.trim {N : Nat} {f : L} (h : Bn N f) : Bn N (trim f) := fun k => by rw [at_trim]; exact h k
theorem Bn.take {N : Nat} {f : L} (h : Bn N f) (n : Nat) : Bn N (f.take n) := fun k => by
  rw [at_take]; split
  · exact h k
  · simp
theorem Bn.cons0 {N : Nat} {f : L} (h : Bn N f) : Bn N (0 :: f) := fun k => by
  cases k with
  | zero => rw [at_cons_zero]; simp
  | succ k => rw [at_cons_succ]; exact h k
theorem Bn.add {x y : Int} {N : Nat} (hx : x.natAbs ≤ 2 ^ N) (hy : y.natAbs ≤ 2 ^ N) : (x + y).natAbs ≤ 2 ^ (N + 1) := by
  have := Int.natAbs_add_le x y
  rw [Nat.pow_succ]; omega
theorem Bn.mulI {x y : Int} {N M : Nat} (hx : x.natAbs ≤ 2 ^ N) (hy : y.natAbs ≤ 2 ^ M) : (x * y).natAbs ≤ 2 ^ (N + M) := by
  rw [Int.natAbs_mul, Nat.pow_add]; exact Nat.mul_le_mul hx hy
theorem divN_bn {f g : L} {a b m : Nat} (hf : Bn a f) (hg : Bn b g) (hm : m + g.length = f.length + 1) (hg0 : 0 < g.length) (n : Nat) (hn : n ≤ m) : Bn (a + n * (b + 1)) (divN f g m n).1 := by
  induction n with
  | zero => intro k; show (at_ f k).natAbs ≤ _; rw [Nat.zero_mul]; exact hf k
  | succ n ih =>
    have ih := ih (by omega)
    have l1 := (divN_len f g m n).1
    have e : divN f g m (n + 1) = divSt g (m - 1 - n) (divN f g m n) := rfl
    rw [e]
    generalize divN f g m n = st at *
    obtain ⟨r, q⟩ := st
    simp only [divSt]
    simp only at ih l1
    have hs : a + (n + 1) * (b + 1) = (a + n * (b + 1)) + b + 1 := by rw [Nat.succ_mul]; omega
    rw [hs]
    split
    · exact ih.mono (by omega)
    · intro j
      rw [at_addRow _ _ _ _ _ (by omega)]
      refine Bn.add (Nat.le_trans (ih j) (Nat.pow_le_pow_right (by omega) (by omega))) ?_
      split
      · refine Bn.mulI ?_ (hg _)
        rw [Int.natAbs_neg]; exact ih _
      · simp
/-- within a division's turn -/
theorem addRow_bn {r g : L} {N b k : Nat} {x : Int} (hr : Bn N r) (hg : Bn b g) (hx : x.natAbs ≤ 2 ^ N) (n : Nat) (h : k + n ≤ r.length) : Bn (N + b + 1) (addRow x g k n r) := fun j => by
  rw [at_addRow _ _ _ _ _ h]
  refine Bn.add (Nat.le_trans (hr j) (Nat.pow_le_pow_right (by omega) (by omega))) ?_
  split
  · exact Bn.mulI hx (hg _)
  · simp
theorem dv_bn {f g : L} {a b : Nat} (hf : Bn a f) (hg : Bn b g) (hg0 : 0 < g.length) : Bn (a + (f.length + 1 - g.length) * (b + 1)) (dv f g).2 := by
  unfold dv
  simp only
  by_cases hc : g.length ≤ f.length
  · exact ((divN_bn hf hg (by omega) hg0 _ (Nat.le_refl _)).take _).trim
  · have h0 : f.length + 1 - g.length = 0 := by omega
    rw [h0, Nat.zero_mul]
    exact (Bn.take (f := (divN f g 0 0).1) hf _).trim
theorem convN_bn {f g : L} {a b : Nat} (hf : Bn a f) (hg : Bn b g) (N : Nat) : ∀ n, n + g.length ≤ N + 1 → ∀ j, (at_ (convN f g n (zeros N)) j).natAbs ≤ n * 2 ^ (a + b)
  | 0, _, j => by show (at_ (zeros N) j).natAbs ≤ _; rw [at_zeros]; simp
  | n + 1, h, j => by
    have ih := convN_bn hf hg N n (by omega) j
    have e : convN f g (n + 1) (zeros N) = if at_ f n = 0 then convN f g n (zeros N) else addRow (at_ f n) g n g.length (convN f g n (zeros N)) := rfl
    rw [e, Nat.succ_mul]
    split
    · exact Nat.le_trans ih (Nat.le_add_right _ _)
    · rw [at_addRow _ _ _ _ _ (by rw [len_convN, len_zeros]; omega)]
      have h1 := Int.natAbs_add_le (at_ (convN f g n (zeros N)) j) (if n ≤ j ∧ j < n + g.length then at_ f n * at_ g (j - n) else 0)
      have h2 : (if n ≤ j ∧ j < n + g.length then at_ f n * at_ g (j - n) else 0 : Int).natAbs ≤ 2 ^ (a + b) := by
        split
        · exact Bn.mulI (hf _) (hg _)
        · simp
      exact Nat.le_trans h1 (Nat.add_le_add ih h2)
theorem mul_bn {f g : L} {a b : Nat} (hf : Bn a f) (hg : Bn b g) (hl : f.length ≤ 64) : Bn (a + b + 6) (mul f g) := by
  unfold mul
  split
  · intro k; rw [at_nil]; simp
  · rename_i h
    have hg0 : g.length ≠ 0 := fun e => h (.inr (List.length_eq_zero_iff.mp e))
    have hf0 : f.length ≠ 0 := fun e => h (.inl (List.length_eq_zero_iff.mp e))
    refine Bn.trim fun k => ?_
    have h1 := convN_bn hf hg (f.length + g.length - 1) f.length (by omega) k
    have e : 2 ^ (a + b + 6) = 64 * 2 ^ (a + b) := by rw [Nat.pow_add _ (a + b) 6]; omega
    rw [e]
    exact Nat.le_trans h1 (Nat.mul_le_mul_right _ hl)
theorem mul_len (f g : L) : (mul f g).length ≤ f.length + g.length := by
  unfold mul
  split
  · simp
  · refine Nat.le_trans (trim_le _) ?_
    rw [len_convN, len_zeros]; omega
theorem Bn.zip {l : L} {N : Nat} (h : ∀ x ∈ l, x.natAbs ≤ 2 ^ N) : Bn N l := fun k => by
  by_cases hk : k < l.length
  · unfold at_
    rw [List.getD_eq_getElem?_getD, List.getElem?_eq_getElem hk]
    exact h _ (List.getElem_mem hk)
  · rw [at_ge (by omega)]; simp
theorem zeros_eq (n : Nat) : zeros n = List.replicate n 0 := rfl
end Bd
set_option linter.all false
namespace Bd
open Lean.Grind
instance (priority := low) castN {A : Type} [Semiring A] : NatCast A := Semiring.natCast
section
variable {A : Type} [CommRing A]
theorem castNI (k : Nat) : (((k : Nat) : Int) : A) = (k : A) := Ring.intCast_natCast k
theorem cast_pow (x : Int) (k : Nat) : ((x ^ k : Int) : A) = (x : A) ^ k := by
  induction k with
  | zero => rw [Int.pow_zero, Semiring.pow_zero]; grind
  | succ k ih => rw [Int.pow_succ, Semiring.pow_succ, ← ih]; grind
/-- a whole combination -/
def lin (n : Nat) (e : Nat → A) (z : Nat → Int) : A := S n fun d => (z d : A) * e d
theorem lin_congr {n : Nat} {e e' : Nat → A} {z z' : Nat → Int} (h : ∀ d, d < n → z d = z' d) (h' : ∀ d, d < n → e d = e' d) : lin n e z = lin n e' z' := S_congr fun d hd => by rw [h d hd, h' d hd]
theorem lin_add (n : Nat) (e : Nat → A) (z z' : Nat → Int) : lin n e (fun d => z d + z' d) = lin n e z + lin n e z' := by
  unfold lin; rw [← S_add]; exact S_congr fun d _ => by grind
theorem lin_scale (n : Nat) (e : Nat → A) (c : Int) (z : Nat → Int) : lin n e (fun d => c * z d) = (c : A) * lin n e z := by
  unfold lin; rw [← S_mul]; exact S_congr fun d _ => by grind
theorem lin_sub (n : Nat) (e : Nat → A) (z z' : Nat → Int) : lin n e (fun d => z d - z' d) = lin n e z - lin n e z' := by
  have := lin_add n e (fun d => z d - z' d) z'
  have e2 : lin n e (fun d => z d - z' d + z' d) = lin n e z := lin_congr (fun d _ => by omega) fun _ _ => rfl
  rw [e2] at this; grind
theorem lin_SI (n m : Nat) (e : Nat → A) (y : Nat → Int) (C : Nat → Nat → Int) : lin n e (fun l => SI m fun d => y d * C d l) = lin m (fun d => lin n e (C d)) y := by
  unfold lin
  have : S n (fun l => ((SI m fun d => y d * C d l : Int) : A) * e l) = S n (fun l => S m fun d => ((y d : A) * (C d l : A)) * e l) := S_congr fun l _ => by
    rw [S_mulr, cast_S]; congr 1; exact S_congr fun d _ => by grind
  rw [this, S_swap]
  exact S_congr fun d _ => by rw [← S_mul]; exact S_congr fun l _ => by grind
theorem lin_one {n k : Nat} (e : Nat → A) (hk : k < n) {z : Nat → Int} (h1 : z k = 1) (h : ∀ d, d < n → d ≠ k → z d = 0) : lin n e z = e k := by
  unfold lin
  rw [S_one (f := fun d => (z d : A) * e d) hk fun d hd hne => by rw [h d hd hne]; grind]
  rw [h1]; grind
theorem evf_lin (t : A) (n : Nat) (c : Nat → Int) : evf t n c = lin n (fun i => t ^ i) c := rfl
theorem lin_zero (n : Nat) (e : Nat → A) {z : Nat → Int} (h : ∀ d, d < n → z d = 0) : lin n e z = 0 := S_zero fun d hd => by rw [h d hd]; grind
end

/-! ### a binomial row -/
def pas : Nat → List Nat
  | 0 => [1]
  | n + 1 => List.zipWith (· + ·) (0 :: pas n) (pas n ++ [0])
section
variable {A : Type} [CommRing A]
theorem len_pas (n : Nat) : (pas n).length = n + 1 := by
  induction n with
  | zero => rfl
  | succ n ih => simp [pas, ih]
/-- the row as a polynomial of two letters -/
def pv2 (x y : A) (n : Nat) (c : Nat → Nat) : A := S (n + 1) fun k => (c k : A) * (x ^ k * y ^ (n - k))
theorem S_shift (n : Nat) (f : Nat → A) : S (n + 1) f = f 0 + S n (fun i => f (i + 1)) := by
  induction n with
  | zero => simp only [S]; grind
  | succ n ih =>
    have e : S (n + 1 + 1) f = S (n + 1) f + f (n + 1) := rfl
    have e2 : S (n + 1) (fun i => f (i + 1)) = S n (fun i => f (i + 1)) + f (n + 1) := rfl
    rw [e, ih, e2]; grind
theorem binom (x y : A) (n : Nat) : (x + y) ^ n = pv2 x y n fun k => (pas n).getD k 0 := by
  induction n with
  | zero => simp only [pv2, S, pas]; rw [Semiring.pow_zero]; simp only [List.getD_cons_zero]; rw [Semiring.pow_zero, Semiring.pow_zero]; grind
  | succ n ih =>
    rw [Semiring.pow_succ, ih]
    unfold pv2
    have hc : ∀ k, k < n + 2 → (pas (n + 1)).getD k 0 = (if k = 0 then 0 else (pas n).getD (k - 1) 0) + (pas n).getD k 0 := fun k hk => by
      have hl := len_pas n
      simp only [pas, List.getD_eq_getElem?_getD, List.getElem?_zipWith]
      rw [List.getElem?_eq_getElem (by simp; omega), List.getElem?_eq_getElem (by simp; omega)]
      simp only [Option.getD_some]
      cases k with
      | zero => simp [List.getElem_append, hl]
      | succ k =>
        simp only [List.getElem_cons_succ, Nat.add_sub_cancel, if_neg (Nat.succ_ne_zero k)]
        rw [List.getElem?_eq_getElem (by omega)]
        by_cases h2 : k + 1 < (pas n).length
        · rw [List.getElem_append_left h2, List.getElem?_eq_getElem h2]; rfl
        · rw [List.getElem_append_right (by omega), List.getElem?_eq_none (by omega)]; simp
    have h1 : S (n + 1 + 1) (fun k => (((pas (n + 1)).getD k 0 : Nat) : A) * (x ^ k * y ^ (n + 1 - k))) =
        S (n + 1 + 1) (fun k => ((if k = 0 then 0 else (pas n).getD (k - 1) 0 : Nat) : A) * (x ^ k * y ^ (n + 1 - k))) + S (n + 1 + 1) (fun k => (((pas n).getD k 0 : Nat) : A) * (x ^ k * y ^ (n + 1 - k))) := by
      rw [← S_add]; exact S_congr fun k hk => by rw [hc k (by omega)]; grind
    rw [h1, S_shift (n + 1)]
    have h2 : S (n + 1) (fun i => ((if i + 1 = 0 then 0 else (pas n).getD (i + 1 - 1) 0 : Nat) : A) * (x ^ (i + 1) * y ^ (n + 1 - (i + 1)))) = S (n + 1) (fun k => (((pas n).getD k 0 : Nat) : A) * (x ^ k * y ^ (n - k))) * x := by
      rw [← S_mulr]; exact S_congr fun k hk => by
        rw [if_neg (by omega)]
        have e1 : k + 1 - 1 = k := by omega
        have e2 : n + 1 - (k + 1) = n - k := by omega
        rw [e1, e2, Semiring.pow_succ]; grind
    have h3 : S (n + 1 + 1) (fun k => (((pas n).getD k 0 : Nat) : A) * (x ^ k * y ^ (n + 1 - k))) = S (n + 1) (fun k => (((pas n).getD k 0 : Nat) : A) * (x ^ k * y ^ (n - k))) * y := by
      have hz : (pas n).getD (n + 1) 0 = 0 := by rw [List.getD_eq_getElem?_getD, List.getElem?_eq_none (by rw [len_pas]; omega)]; rfl
      have e : S (n + 1 + 1) (fun k => (((pas n).getD k 0 : Nat) : A) * (x ^ k * y ^ (n + 1 - k))) = S (n + 1) (fun k => (((pas n).getD k 0 : Nat) : A) * (x ^ k * y ^ (n + 1 - k))) + (((pas n).getD (n + 1) 0 : Nat) : A) * (x ^ (n + 1) * y ^ (n + 1 - (n + 1))) := rfl
      rw [e, hz, ← S_mulr]
      have : S (n + 1) (fun k => (((pas n).getD k 0 : Nat) : A) * (x ^ k * y ^ (n + 1 - k))) = S (n + 1) (fun k => (((pas n).getD k 0 : Nat) : A) * (x ^ k * y ^ (n - k)) * y) := S_congr fun k hk => by
        have e2 : n + 1 - k = (n - k) + 1 := by omega
        rw [e2, Semiring.pow_succ]; grind
      rw [this]; grind
    rw [h2, h3]
    simp only [if_true]
    grind
end
/-- the primes: what is in a binomial row between its ends is divided -/
structure Prb (p : Nat) : Prop where
  P : Pr p
  row : ∀ k, 0 < k → k < p → p ∣ (pas p).getD k 0
  e0 : (pas p).getD 0 0 = 1
  ep : (pas p).getD p 0 = 1
def prB (p : Nat) : Bool := decide (2 ≤ p) && (List.range (p + 1)).all (fun d => !(decide (d ∣ p)) || d == 1 || d == p) && (List.range p).all (fun k => k == 0 || (pas p).getD k 0 % p == 0) && (pas p).getD 0 0 == 1 && (pas p).getD p 0 == 1
theorem Prb.of {p : Nat} (h : prB p = true) : Prb p := by
  unfold prB at h
  simp only [Bool.and_eq_true, decide_eq_true_eq, List.all_eq_true, List.mem_range, Bool.or_eq_true, Bool.not_eq_true', decide_eq_false_iff_not, beq_iff_eq] at h
  obtain ⟨⟨⟨⟨h1, h2⟩, h3⟩, h4⟩, h5⟩ := h
  refine ⟨⟨h1, fun d hd => ?_⟩, fun k k0 k1 => ?_, h4, h5⟩
  · have := Nat.le_of_dvd (by omega) hd
    rcases h2 d (by omega) with (h | h) | h
    · exact absurd hd h
    · exact .inl h
    · exact .inr h
  · rcases h3 k k1 with h | h
    · omega
    · exact Nat.dvd_of_mod_eq_zero h
theorem prb2 : Prb 2 := Prb.of (by decide +kernel)
theorem prb3 : Prb 3 := Prb.of (by decide +kernel)
theorem prb5 : Prb 5 := Prb.of (by decide +kernel)
theorem prb7 : Prb 7 := Prb.of (by decide +kernel)
theorem prb43 : Prb 43 := Prb.of (by decide +kernel)
theorem prb47 : Prb 47 := Prb.of (by decide +kernel)

section
variable {A : Type} [CommRing A]
/-- a subring -/
structure SubR (O : A → Prop) : Prop where
  one : O 1
  add : ∀ x y, O x → O y → O (x + y)
  mul : ∀ x y, O x → O y → O (x * y)
  neg : ∀ x, O x → O (-x)
theorem SubR.zero {O : A → Prop} (H : SubR O) : O 0 := by
  have := H.add _ _ H.one (H.neg _ H.one)
  have e : (1 : A) + -1 = 0 := by grind
  rwa [e] at this
theorem SubR.sub {O : A → Prop} (H : SubR O) {x y : A} (hx : O x) (hy : O y) : O (x - y) := by
  have := H.add _ _ hx (H.neg _ hy)
  have e : x + -y = x - y := by grind
  rwa [e] at this
theorem SubR.nat {O : A → Prop} (H : SubR O) (k : Nat) : O (k : A) := by
  induction k with
  | zero => have := H.zero; have e : ((0 : Nat) : A) = 0 := by grind
            rwa [e]
  | succ k ih => have := H.add _ _ ih H.one; have e : ((k + 1 : Nat) : A) = (k : A) + 1 := by grind
                 rwa [e]
theorem SubR.int {O : A → Prop} (H : SubR O) (k : Int) : O (k : A) := by
  cases k with
  | ofNat k => have := H.nat k; have e : ((Int.ofNat k : Int) : A) = (k : A) := by
                 have : Int.ofNat k = (k : Int) := rfl
                 rw [this, castNI]
               rwa [e]
  | negSucc k => have := H.neg _ (H.nat (k + 1)); have e : ((Int.negSucc k : Int) : A) = -((k + 1 : Nat) : A) := by
                   have e1 := castNI (A := A) k
                   rw [Int.negSucc_eq]; clear H this; grind
                 rwa [e]
theorem SubR.pow {O : A → Prop} (H : SubR O) {x : A} (hx : O x) (k : Nat) : O (x ^ k) := by
  induction k with
  | zero => rw [Semiring.pow_zero]; exact H.one
  | succ k ih => rw [Semiring.pow_succ]; exact H.mul _ _ ih hx
theorem SubR.S {O : A → Prop} (H : SubR O) {n : Nat} {f : Nat → A} (h : ∀ i, i < n → O (f i)) : O (S n f) := by
  induction n with
  | zero => exact H.zero
  | succ n ih => exact H.add _ _ (ih fun i hi => h i (by omega)) (h n (by omega))
theorem SubR.lin {O : A → Prop} (H : SubR O) {n : Nat} {e : Nat → A} (h : ∀ i, i < n → O (e i)) (z : Nat → Int) : O (lin n e z) := H.S fun i hi => H.mul _ _ (H.int _) (h i hi)
/-- alike by p times O -/
def Eqp (O : A → Prop) (p : Nat) (x y : A) : Prop := ∃ w, O w ∧ x - y = (p : A) * w
theorem Eqp.refl {O : A → Prop} {p : Nat} (H : SubR O) (x : A) : Eqp O p x x := ⟨0, H.zero, by grind⟩
theorem Eqp.symm {O : A → Prop} {p : Nat} (H : SubR O) {x y : A} (h : Eqp O p x y) : Eqp O p y x := by
  obtain ⟨w, hw, e⟩ := h; exact ⟨-w, H.neg _ hw, by grind⟩
theorem Eqp.trans {O : A → Prop} {p : Nat} (H : SubR O) {x y z : A} (h : Eqp O p x y) (h' : Eqp O p y z) : Eqp O p x z := by
  obtain ⟨w, hw, e⟩ := h; obtain ⟨w', hw', e'⟩ := h'; exact ⟨w + w', H.add _ _ hw hw', by grind⟩
theorem Eqp.add {O : A → Prop} {p : Nat} (H : SubR O) {x y x' y' : A} (h : Eqp O p x y) (h' : Eqp O p x' y') : Eqp O p (x + x') (y + y') := by
  obtain ⟨w, hw, e⟩ := h; obtain ⟨w', hw', e'⟩ := h'; exact ⟨w + w', H.add _ _ hw hw', by grind⟩
theorem Eqp.mul {O : A → Prop} {p : Nat} (H : SubR O) {x y x' y' : A} (h : Eqp O p x y) (h' : Eqp O p x' y') (hx' : O x') (hy : O y) : Eqp O p (x * x') (y * y') := by
  obtain ⟨w, hw, e⟩ := h; obtain ⟨w', hw', e'⟩ := h'
  exact ⟨w * x' + y * w', H.add _ _ (H.mul _ _ hw hx') (H.mul _ _ hy hw'), by grind⟩
theorem Eqp.pow {O : A → Prop} {p : Nat} (H : SubR O) {x y : A} (h : Eqp O p x y) (hx : O x) (hy : O y) (k : Nat) : Eqp O p (x ^ k) (y ^ k) := by
  induction k with
  | zero => rw [Semiring.pow_zero, Semiring.pow_zero]; exact Eqp.refl H _
  | succ k ih => rw [Semiring.pow_succ, Semiring.pow_succ]; exact ih.mul H h hx (H.pow hy k)
theorem Eqp.S {O : A → Prop} {p : Nat} (H : SubR O) {n : Nat} {f g : Nat → A} (h : ∀ i, i < n → Eqp O p (f i) (g i)) : Eqp O p (Bd.S n f) (Bd.S n g) := by
  induction n with
  | zero => exact Eqp.refl H _
  | succ n ih => exact (ih fun i hi => h i (by omega)).add H (h n (by omega))
/-- Frobenius -/
theorem frob {O : A → Prop} {p : Nat} (B : Prb p) (H : SubR O) {x y : A} (hx : O x) (hy : O y) : Eqp O p ((x + y) ^ p) (x ^ p + y ^ p) := by
  have h2 := B.P.two
  rw [binom]
  unfold pv2
  obtain ⟨m, rfl⟩ : ∃ m, p = m + 1 := ⟨p - 1, by omega⟩
  have e1 : S (m + 1 + 1) (fun k => (((pas (m + 1)).getD k 0 : Nat) : A) * (x ^ k * y ^ (m + 1 - k))) = S (m + 1) (fun k => (((pas (m + 1)).getD k 0 : Nat) : A) * (x ^ k * y ^ (m + 1 - k))) + (((pas (m + 1)).getD (m + 1) 0 : Nat) : A) * (x ^ (m + 1) * y ^ (m + 1 - (m + 1))) := rfl
  rw [e1, S_shift, B.e0, B.ep]
  have e2 : m + 1 - (m + 1) = 0 := by omega
  have e3 : m + 1 - 0 = m + 1 := by omega
  rw [e2, e3, Semiring.pow_zero, Semiring.pow_zero]
  refine ⟨S m (fun i => (((pas (m + 1)).getD (i + 1) 0 / (m + 1) : Nat) : A) * (x ^ (i + 1) * y ^ (m + 1 - (i + 1)))), H.S fun i hi => H.mul _ _ (H.nat _) (H.mul _ _ (H.pow hx _) (H.pow hy _)), ?_⟩
  have e4 : S m (fun i => (((pas (m + 1)).getD (i + 1) 0 : Nat) : A) * (x ^ (i + 1) * y ^ (m + 1 - (i + 1)))) = ((m + 1 : Nat) : A) * S m (fun i => (((pas (m + 1)).getD (i + 1) 0 / (m + 1) : Nat) : A) * (x ^ (i + 1) * y ^ (m + 1 - (i + 1)))) := by
    rw [← S_mul]
    exact S_congr fun i hi => by
      have := Nat.mul_div_cancel' (B.row (i + 1) (by omega) (by omega))
      generalize (pas (m + 1)).getD (i + 1) 0 / (m + 1) = q at *
      rw [← this]; grind
  rw [e4]
  have e5 : ((1 : Nat) : A) = 1 := by grind
  rw [e5]; grind
theorem frobS {O : A → Prop} {p : Nat} (B : Prb p) (H : SubR O) {n : Nat} {f : Nat → A} (h : ∀ i, i < n → O (f i)) : Eqp O p (S n f ^ p) (S n fun i => f i ^ p) := by
  induction n with
  | zero =>
    have h2 := B.P.two
    obtain ⟨m, rfl⟩ : ∃ m, p = m + 1 := ⟨p - 1, by omega⟩
    show Eqp O _ ((0 : A) ^ (m + 1)) 0
    rw [Semiring.pow_succ]
    have : (0 : A) ^ m * 0 = 0 := by grind
    rw [this]; exact Eqp.refl H _
  | succ n ih =>
    exact (frob B H (H.S fun i hi => h i (by omega)) (h n (by omega))).trans H ((ih fun i hi => h i (by omega)).add H (Eqp.refl H _))
/-- Fermat -/
theorem fermat {p : Nat} (B : Prb p) (c : Int) : (p : Int) ∣ c ^ p - c := by
  have H : SubR (fun _ : Int => True) := ⟨trivial, fun _ _ _ _ => trivial, fun _ _ _ _ => trivial, fun _ _ => trivial⟩
  have h2 := B.P.two
  have hn : ∀ k : Nat, (p : Int) ∣ (k : Int) ^ p - k := by
    intro k
    induction k with
    | zero =>
      have : ((0 : Nat) : Int) ^ p = 0 := by simpa using Int.zero_pow (by omega : p ≠ 0)
      rw [this]; exact ⟨0, by simp⟩
    | succ k ih =>
      obtain ⟨w, _, e⟩ := frob B H (x := (k : Int)) (y := 1) trivial trivial
      have e1 : (1 : Int) ^ p = 1 := Int.one_pow
      have e2 : ((k + 1 : Nat) : Int) ^ p - ((k + 1 : Nat) : Int) = (p : Int) * w + ((k : Int) ^ p - k) := by
        have e3 : ((k + 1 : Nat) : Int) = (k : Int) + 1 := by omega
        have e4 : ((k : Int) + 1) ^ p - ((k : Int) ^ p + 1 ^ p) = (p : Int) * w := e
        rw [e3]; rw [e1] at e4; omega
      rw [e2]; exact Int.dvd_add (Int.dvd_mul_right _ _) ih
  have hm : (p : Int) ∣ (c % p) ^ p - c % p := by
    have h0 := Int.emod_nonneg c (by omega : (p : Int) ≠ 0)
    obtain ⟨k, hk⟩ := Int.eq_ofNat_of_zero_le h0
    rw [hk]; exact hn k
  have h3 : (p : Int) ∣ c ^ p - (c % p) ^ p := by
    have hd := dvd_emod' c p
    have : ∀ k : Nat, (p : Int) ∣ c ^ k - (c % p) ^ k := by
      intro k
      induction k with
      | zero => rw [Int.pow_zero, Int.pow_zero]; exact ⟨0, by simp⟩
      | succ k ih =>
        rw [Int.pow_succ, Int.pow_succ]
        have e : c ^ k * c - (c % ↑p) ^ k * (c % ↑p) = (c ^ k - (c % p) ^ k) * c + (c % p) ^ k * (c - c % p) := by grind
        rw [e]; exact Int.dvd_add (Int.dvd_mul_of_dvd_left ih) (Int.dvd_mul_of_dvd_right hd)
    exact this p
  have h4 := dvd_emod' c p
  have e : c ^ p - c = (c ^ p - (c % p) ^ p) + ((c % p) ^ p - c % p) - (c - c % p) := by omega
  rw [e]; exact Int.dvd_sub (Int.dvd_add h3 hm) h4
theorem pow_mul' (x : A) (a b : Nat) : (x * x) ^ a = (x ^ a) * (x ^ a) := by
  induction a with
  | zero => simp only [Semiring.pow_zero]; grind
  | succ a ih => simp only [Semiring.pow_succ, ih]; grind
theorem mul_pow (x y : A) (k : Nat) : (x * y) ^ k = x ^ k * y ^ k := by
  induction k with
  | zero => simp only [Semiring.pow_zero]; grind
  | succ k ih => simp only [Semiring.pow_succ, ih]; grind
theorem pow_mulr (x : A) (a b : Nat) : x ^ (a * b) = (x ^ a) ^ b := by
  induction b with
  | zero => simp only [Nat.mul_zero, Semiring.pow_zero]
  | succ b ih => rw [Nat.mul_succ, Semiring.pow_add, ih, Semiring.pow_succ]
/-- of whole combinations, to the power of a power of p -/
theorem frobL {O : A → Prop} {p : Nat} (B : Prb p) (H : SubR O) {n : Nat} {e : Nat → A} (h : ∀ i, i < n → O (e i)) (z : Nat → Int) (k : Nat) : Eqp O p (lin n e z ^ p ^ k) (lin n (fun i => e i ^ p ^ k) z) := by
  induction k with
  | zero =>
    have : ∀ x : A, x ^ p ^ 0 = x := fun x => by rw [Nat.pow_zero, ← Nat.zero_add 1, Semiring.pow_succ, Semiring.pow_zero]; grind
    rw [this]
    have : lin n (fun i => e i ^ p ^ 0) z = lin n e z := lin_congr (fun _ _ => rfl) fun i _ => this _
    rw [this]; exact Eqp.refl H _
  | succ k ih =>
    have hk : ∀ i, i < n → O (e i ^ p ^ k) := fun i hi => H.pow (h i hi) _
    have e1 : lin n e z ^ p ^ (k + 1) = (lin n e z ^ p ^ k) ^ p := by rw [Nat.pow_succ, pow_mulr]
    rw [e1]
    refine (ih.pow H (H.pow (H.lin h z) _) (H.lin hk z) p).trans H ?_
    refine (frobS B H fun i hi => H.mul _ _ (H.int _) (hk i hi)).trans H ?_
    refine Eqp.S H fun i hi => ?_
    have e2 : (e i ^ p ^ (k + 1)) = (e i ^ p ^ k) ^ p := by rw [Nat.pow_succ, pow_mulr]
    show Eqp O p (((z i : A) * e i ^ p ^ k) ^ p) ((z i : A) * e i ^ p ^ (k + 1))
    rw [e2, mul_pow]
    refine Eqp.mul H ?_ (Eqp.refl H _) (H.pow (hk i hi) _) (H.int _)
    obtain ⟨w, hw⟩ := fermat B (z i)
    refine ⟨(w : A), H.int _, ?_⟩
    rw [← cast_pow]
    have : z i ^ p = z i + p * w := by omega
    rw [this, ← castNI (A := A) p]
    generalize z i = a
    generalize (p : Int) = b
    clear hw this e1 e2 ih h hk
    grind
end
end Bd
set_option linter.all false
namespace Bd
open Lean.Grind
/-! ### the greatest power -/
theorem maxL_ge : ∀ (l : L) (a : Int), a ≤ l.foldl max a ∧ ∀ x ∈ l, x ≤ l.foldl max a
  | [], a => ⟨Int.le_refl _, fun x hx => by cases hx⟩
  | b :: r, a => by
    obtain ⟨h1, h2⟩ := maxL_ge r (max a b)
    rw [List.foldl_cons]
    refine ⟨by omega, fun x hx => ?_⟩
    rcases List.mem_cons.mp hx with rfl | hx
    · omega
    · exact h2 x hx
theorem maxL_mem : ∀ (l : L) (a : Int), l.foldl max a = a ∨ l.foldl max a ∈ l
  | [], a => .inl rfl
  | b :: r, a => by
    rw [List.foldl_cons]
    rcases maxL_mem r (max a b) with h | h
    · rw [h]
      by_cases c : a ≤ b
      · right; rw [Int.max_eq_right c]; exact List.mem_cons_self
      · left; omega
    · right; exact List.mem_cons_of_mem _ h
theorem kOf_mem {b : B} {d : Nat} (h : d < b.length) : kOf b d ∈ ks b := by
  unfold kOf ks
  rw [List.getD_eq_getElem?_getD, List.getElem?_eq_getElem h]
  exact List.mem_map_of_mem (List.getElem_mem h)
theorem ks_kOf {b : B} {k : Int} (h : k ∈ ks b) : ∃ d, d < b.length ∧ k = kOf b d := by
  unfold ks at h
  obtain ⟨x, hx, rfl⟩ := List.mem_map.mp h
  obtain ⟨d, hd, rfl⟩ := List.getElem_of_mem hx
  exact ⟨d, hd, by unfold kOf; rw [List.getD_eq_getElem?_getD, List.getElem?_eq_getElem hd]; rfl⟩
theorem top_ge {b : B} {d : Nat} (h : d < b.length) : kOf b d ≤ top b := (maxL_ge (ks b) _).2 _ (kOf_mem h)
theorem top_mem {b : B} (h : 0 < b.length) : ∃ d, d < b.length ∧ top b = kOf b d := by
  refine ks_kOf ?_
  unfold top maxL
  rcases maxL_mem (ks b) ((ks b).headD 0) with e | e
  · rw [e]
    cases b with
    | nil => simp at h
    | cons x r => simp [ks]
  · exact e
section
variable {A : Type} [CommRing A]
structure Ctx (t π : A) (p n : Nat) (f : L) : Prop where
  pb : Prb p
  n0 : 0 < n
  fl : f.length = n + 1
  fm : at_ f n = 1
  f0 : ev t f = 0
  pi : (p : A) * π = 1
  inj : ∀ c : Nat → Int, evf t n c = 0 → ∀ i, i < n → c i = 0
def eOf (t π : A) (b : B) (d : Nat) : A := ev t (gOf b d) * π ^ (kOf b d).toNat
def OO (t π : A) (n : Nat) (b : B) (x : A) : Prop := ∃ z : Nat → Int, x = lin n (eOf t π b) z
structure GoodB (p n : Nat) (b : B) : Prop where
  len : b.length = n
  gk : ∀ d, d < n → GK p (top b).toNat d (gOf b d) (kOf b d)
structure OrdOk (t π : A) (p n : Nat) (b : B) : Prop where
  G : GoodB p n b
  sub : SubR (OO t π n b)
  tO : OO t π n b t
variable {t π : A} {p n : Nat} {f : L} {b : B}
theorem Ctx.P (X : Ctx t π p n f) : Pr p := X.pb.P
theorem Ctx.ppi (X : Ctx t π p n f) (k : Nat) : (((p : Int) ^ k : Int) : A) * π ^ k = 1 := by
  rw [cast_pow, castNI, ← mul_pow, X.pi]
  induction k with
  | zero => exact Semiring.pow_zero _
  | succ k ih => rw [Semiring.pow_succ, ih]; grind
theorem Ctx.can (X : Ctx t π p n f) {k : Nat} {x : A} (h : x * π ^ k = 0) : x = 0 := by
  have h1 := X.ppi k
  have : x = (x * π ^ k) * (((p : Int) ^ k : Int) : A) := by grind
  rw [this, h]; grind
theorem Ctx.inj' (X : Ctx t π p n f) {c c' : Nat → Int} (h : evf t n c = evf t n c') : ∀ i, i < n → c i = c' i := fun i hi => by
  have h1 : evf t n (fun i => c i - c' i) = 0 := by
    rw [evf_lin, lin_sub, ← evf_lin, ← evf_lin, h]; grind
  have := X.inj _ h1 i hi
  omega
theorem evf_scale (t : A) (n : Nat) (c : Int) (v : Nat → Int) : evf t n (fun l => c * v l) = (c : A) * evf t n v := lin_scale n _ c v
theorem evf_congr {t : A} {n : Nat} {v v' : Nat → Int} (h : ∀ l, l < n → v l = v' l) : evf t n v = evf t n v' := lin_congr h fun _ _ => rfl
theorem pi_split (X : Ctx t π p n f) {k M : Nat} (h : k ≤ M) : (((p : Int) ^ (M - k) : Int) : A) * π ^ M = π ^ k := by
  have e : M = (M - k) + k := by omega
  have h1 := X.ppi (M - k)
  have e2 : π ^ M = π ^ (M - k) * π ^ k := by rw [← Semiring.pow_add, ← e]
  rw [e2]; grind
theorem evf_fRow (X : Ctx t π p n f) {M d : Nat} {g : L} (hg : GK p M d (gOf b d) (kOf b d)) (hd : d < n) : evf t n (fRow p M b d) * π ^ M = eOf t π b d := by
  unfold fRow eOf
  have e := evf_scale t n ((p : Int) ^ (M - (kOf b d).toNat)) (at_ (gOf b d))
  rw [e, ← ev_le (by rw [hg.len]; omega)]
  have hk : (kOf b d).toNat ≤ M := by have := hg.kM; omega
  have := pi_split X hk
  grind
theorem lin_val (X : Ctx t π p n f) {M : Nat} (hg : ∀ d, d < n → GK p M d (gOf b d) (kOf b d)) (z : Nat → Int) :
    lin n (eOf t π b) z = evf t n (fun l => SI n fun d => z d * fRow p M b d l) * π ^ M := by
  rw [evf_lin, lin_SI]
  unfold lin
  rw [← S_mulr]
  exact S_congr fun d hd => by
    rw [← evf_fRow X (g := []) (hg d hd) hd, evf_lin]
    unfold lin
    grind
theorem fRow_Tri (P : Pr p) {M : Nat} (hg : ∀ d, d < n → GK p M d (gOf b d) (kOf b d)) : Tri n (fRow p M b) := fun d hd => by
  unfold fRow
  refine ⟨?_, fun k hk => ?_⟩
  · rw [(hg d hd).one]; have := P.ppos (M - (kOf b d).toNat); omega
  · rw [at_ge (by rw [(hg d hd).len]; omega)]; simp
theorem indep (X : Ctx t π p n f) {M : Nat} (hg : ∀ d, d < n → GK p M d (gOf b d) (kOf b d)) {z : Nat → Int} (h : lin n (eOf t π b) z = 0) : ∀ d, d < n → z d = 0 := by
  rw [lin_val X hg] at h
  exact (fRow_Tri X.P hg).inj n z (Nat.le_refl _) (X.inj _ (X.can h))
theorem indep' (X : Ctx t π p n f) {M : Nat} (hg : ∀ d, d < n → GK p M d (gOf b d) (kOf b d)) {z z' : Nat → Int} (h : lin n (eOf t π b) z = lin n (eOf t π b) z') : ∀ d, d < n → z d = z' d := fun d hd => by
  have := indep X hg (z := fun d => z d - z' d) (by rw [lin_sub, h]; grind) d hd
  omega
theorem GoodB.k0 (G : GoodB p n b) {d : Nat} (hd : d < n) : 0 ≤ kOf b d := (G.gk d hd).k0
theorem GoodB.top0 (G : GoodB p n b) (h : 0 < n) : 0 ≤ top b := by
  have := top_ge (b := b) (d := 0) (by rw [G.len]; exact h)
  have := G.k0 h; omega
theorem GoodB.up (G : GoodB p n b) {M : Nat} (h : (top b).toNat ≤ M) {d : Nat} (hd : d < n) : GK p M d (gOf b d) (kOf b d) :=
  have q := G.gk d hd
  ⟨q.len, q.one, q.k0, by have := q.kM; omega, q.rng⟩
/-! ### the order's rows -/
theorem len_rows (o : Od) : o.rows.length = o.b.length := by simp [Od.rows, overAll]
theorem getD_rows (o : Od) (d : Nat) (h : d < o.b.length) : o.rows.getD d [] = tab o.n fun j => pw o.p (o.most - kOf o.b d) * at_ (gOf o.b d) j := by
  unfold Od.rows overAll kOf gOf
  simp only [List.getD_eq_getElem?_getD, List.getElem?_map]
  rw [List.getElem?_eq_getElem h]; rfl
theorem ent_rows (X : Ctx t π p n f) (G : GoodB p n b) {d l : Nat} (hd : d < n) : ent (Od.mk f p b).rows d l = if l < n then fRow p (top b).toNat b d l else 0 := by
  unfold ent
  rw [getD_rows _ _ (by show d < b.length; rw [G.len]; exact hd), at_tab]
  have : (Od.mk f p b).n = n := by show f.length - 1 = n; rw [X.fl]; omega
  rw [this]
  split
  · show pw p (top b - kOf b d) * at_ (gOf b d) l = _
    unfold fRow pw
    have h1 := (G.gk d hd).kM
    have h2 := G.k0 hd
    have h3 := G.top0 X.n0
    have : (top b - kOf b d).toNat = (top b).toNat - (kOf b d).toNat := by omega
    rw [this]
  · rfl
theorem row_len (X : Ctx t π p n f) (G : GoodB p n b) {d : Nat} (hd : d < n) : ((Od.mk f p b).rows.getD d []).length = n := by
  rw [getD_rows _ _ (by show d < b.length; rw [G.len]; exact hd), len_tab]
  show f.length - 1 = n; rw [X.fl]; omega
theorem len_rowAdd (x : Int) (row acc : L) (h : acc.length = row.length) : (rowAdd x row acc).length = acc.length := by unfold rowAdd; simp; omega
theorem at_rowAdd (x : Int) (row acc : L) (h : acc.length = row.length) (j : Nat) : at_ (rowAdd x row acc) j = at_ acc j + x * at_ row j := by
  unfold rowAdd; rw [at_zip _ (by simp) _ _ h]
theorem rowOf_ok {rows : LL} {xs : L} {n : Nat} (hr : rows.length = n) (hw : ∀ d, d < n → (rows.getD d []).length = n) (hx : xs.length = n) :
    (rowOf rows xs).length = n ∧ ∀ l, at_ (rowOf rows xs) l = SI n fun d => at_ xs d * ent rows d l := by
  have key : ∀ m, m ≤ n → (It m (fun t acc => rowAdd (at_ xs t) (rows.getD t []) acc) (zeros n)).length = n ∧ ∀ l, at_ (It m (fun t acc => rowAdd (at_ xs t) (rows.getD t []) acc) (zeros n)) l = SI m fun d => at_ xs d * ent rows d l := by
    intro m
    induction m with
    | zero => intro _; exact ⟨len_zeros _, fun l => at_zeros _ _⟩
    | succ m ih =>
      intro hm
      obtain ⟨h1, h2⟩ := ih (by omega)
      simp only [It]
      refine ⟨by rw [len_rowAdd _ _ _ (by rw [h1, hw m (by omega)]), h1], fun l => ?_⟩
      rw [at_rowAdd _ _ _ (by rw [h1, hw m (by omega)]), h2, SI_succ]; rfl
  unfold rowOf
  rw [hr, hx, Nat.min_self]
  exact key n (Nat.le_refl _)
/-- the element with these coordinates -/
def el (t π : A) (n : Nat) (b : B) (x : L) : A := lin n (eOf t π b) (at_ x)
theorem rowOf_len (X : Ctx t π p n f) (G : GoodB p n b) {x : L} (hx : x.length = n) : (rowOf (Od.mk f p b).rows x).length = n :=
  (rowOf_ok (by rw [len_rows]; exact G.len) (fun d hd => row_len X G hd) hx).1
theorem at_rowOf (X : Ctx t π p n f) (G : GoodB p n b) {x : L} (hx : x.length = n) {l : Nat} (hl : l < n) : at_ (rowOf (Od.mk f p b).rows x) l = SI n fun d => at_ x d * fRow p (top b).toNat b d l := by
  rw [(rowOf_ok (by rw [len_rows]; exact G.len) (fun d hd => row_len X G hd) hx).2]
  exact SI_congr fun d hd => by rw [ent_rows X G hd, if_pos hl]
theorem ev_rowOf (X : Ctx t π p n f) (G : GoodB p n b) {x : L} (hx : x.length = n) : ev t (rowOf (Od.mk f p b).rows x) * π ^ (top b).toNat = el t π n b x := by
  rw [ev_le (n := n) (by rw [rowOf_len X G hx]; omega)]
  unfold el
  rw [lin_val X G.gk]
  congr 1
  exact evf_congr fun l hl => at_rowOf X G hx hl
/-- a product's coordinates -/
theorem prodO_ok (X : Ctx t π p n f) (O : OrdOk t π p n b) {x y : L} (hx : x.length = n) (hy : y.length = n) :
    ∃ z, (Od.mk f p b).prodO x y = some z ∧ z.length = n ∧ el t π n b z = el t π n b x * el t π n b y := by
  have G := O.G
  obtain ⟨c, hc⟩ := O.sub.mul _ _ (⟨at_ x, rfl⟩ : OO t π n b (el t π n b x)) (⟨at_ y, rfl⟩ : OO t π n b (el t π n b y))
  have hM : (2 * top b).toNat = (top b).toNat + (top b).toNat := by have := G.top0 X.n0; omega
  have hgk : ∀ d, d < n → GK p (2 * top b).toNat d (gOf b d) (kOf b d) := fun d hd => G.up (by omega) hd
  have hcr : ∀ d l, d < n → cRow b p (2 * top b) d l = fRow p (2 * top b).toNat b d l := fun d l hd => by
    unfold cRow fRow pw
    have h1 := (G.gk d hd).kM
    have h2 := G.k0 hd
    have h3 := G.top0 X.n0
    have : (2 * top b - kOf b d).toNat = (2 * top b).toNat - (kOf b d).toNat := by omega
    rw [this]
  have hev : ev t ((Od.mk f p b).prodRow x y) * π ^ (2 * top b).toNat = el t π n b x * el t π n b y := by
    have e := ev_prodOf t f (rowOf (Od.mk f p b).rows x) (rowOf (Od.mk f p b).rows y) (by rw [X.fl]; omega) (by rw [X.fl]; exact X.fm) X.f0
    show ev t (prodOf f (rowOf (Od.mk f p b).rows x) (rowOf (Od.mk f p b).rows y)) * _ = _
    rw [e, ← ev_rowOf X G hx, ← ev_rowOf X G hy, hM, Semiring.pow_add]; grind
  have hlen : ((Od.mk f p b).prodRow x y).length = n := by
    show (prodOf f _ _).length = n
    rw [len_prodOf, X.fl]; omega
  have hrow : ∀ l, l < n → at_ ((Od.mk f p b).prodRow x y) l = SI n fun d => c d * cRow b p (2 * top b) d l := by
    rw [hc, lin_val X hgk, ev_le (n := n) (by omega)] at hev
    have h1 : evf t n (at_ ((Od.mk f p b).prodRow x y)) = evf t n fun l => SI n fun d => c d * fRow p (2 * top b).toNat b d l := by
      have h2 : (evf t n (at_ ((Od.mk f p b).prodRow x y)) - evf t n fun l => SI n fun d => c d * fRow p (2 * top b).toNat b d l) * π ^ (2 * top b).toNat = 0 := by grind
      have := X.can h2
      grind
    intro l hl
    rw [X.inj' h1 l hl]
    exact SI_congr fun d hd => by rw [hcr d l hd]
  have hT : Tri n (cRow b p (2 * top b)) := fun d hd => by
    have := fRow_Tri X.P hgk d hd
    exact ⟨by rw [hcr d d hd]; exact this.1, fun k hk => by rw [hcr d k hd]; exact this.2 k hk⟩
  obtain ⟨z, h1, h2, h3⟩ := co_ok X.P.pos G.len hT (fun d hd => (G.gk d hd).one) hlen hrow
  refine ⟨z, h1, h2, ?_⟩
  have e1 : el t π n b z = lin n (eOf t π b) c := lin_congr (fun d hd => h3 d hd) fun _ _ => rfl
  rw [e1]; exact hc.symm
theorem prod_ok (X : Ctx t π p n f) (O : OrdOk t π p n b) {x y : L} (hx : x.length = n) (hy : y.length = n) :
    ((Od.mk f p b).prod x y).length = n ∧ el t π n b ((Od.mk f p b).prod x y) = el t π n b x * el t π n b y := by
  obtain ⟨z, h1, h2, h3⟩ := prodO_ok X O hx hy
  unfold Od.prod
  rw [h1]; exact ⟨h2, h3⟩
theorem el_mod {O : A → Prop} (H : SubR O) (hO : ∀ i, i < n → O (eOf t π b i)) (x : L) : Eqp O p (el t π n b (x.map (· % (p : Int)))) (el t π n b x) := by
  refine ⟨lin n (eOf t π b) fun d => -(at_ x d / p), H.lin hO _, ?_⟩
  unfold el
  rw [← lin_sub, ← castNI (A := A) p, ← lin_scale]
  exact lin_congr (fun d hd => by
    rw [at_map _ _ (by simp)]
    have := Int.mul_ediv_add_emod (at_ x d) p
    grind) fun _ _ => rfl
theorem OrdOk.eO (O : OrdOk t π p n b) {i : Nat} (hi : i < n) : OO t π n b (eOf t π b i) := ⟨fun d => if d = i then 1 else 0, (lin_one _ hi (by simp) fun d _ hd => by simp [hd]).symm⟩
theorem OrdOk.el (O : OrdOk t π p n b) (x : L) : OO t π n b (el t π n b x) := ⟨_, rfl⟩
theorem rprod_ok (X : Ctx t π p n f) (O : OrdOk t π p n b) {x y : L} (hx : x.length = n) (hy : y.length = n) :
    ((Od.mk f p b).rprod x y).length = n ∧ Eqp (OO t π n b) p (el t π n b ((Od.mk f p b).rprod x y)) (el t π n b x * el t π n b y) := by
  obtain ⟨h1, h2⟩ := prod_ok X O hx hy
  unfold Od.rprod
  refine ⟨by simp [h1], ?_⟩
  rw [← h2]
  exact el_mod O.sub (fun i hi => O.eO hi) _
theorem raisedF_ok (X : Ctx t π p n f) (O : OrdOk t π p n b) : ∀ (fuel : Nat) (found : Option L) (one : L) (often : Nat), often < fuel → (∀ c, found = some c → c.length = n) → one.length = n → (found = none → 0 < often) →
    ∃ r, (Od.mk f p b).raisedF fuel found one often = some r ∧ r.length = n ∧ Eqp (OO t π n b) p (el t π n b r) ((match found with | none => 1 | some c => el t π n b c) * el t π n b one ^ often)
  | 0, _, _, _, h, _, _, _ => by omega
  | fuel + 1, found, one, often, h, hf, ho, hn => by
    unfold Od.raisedF
    by_cases h0 : often = 0
    · rw [if_pos h0]
      cases found with
      | none => exact absurd h0 (by have := hn rfl; omega)
      | some c =>
        refine ⟨c, rfl, hf c rfl, ?_⟩
        subst h0
        dsimp only
        rw [Semiring.pow_zero]
        have : el t π n b c * 1 = el t π n b c := by grind
        rw [this]; exact Eqp.refl O.sub _
    · rw [if_neg h0]
      obtain ⟨s1, s2⟩ := rprod_ok X O ho ho
      have hsq : Eqp (OO t π n b) p (el t π n b ((Od.mk f p b).rprod one one) ^ (often / 2)) (el t π n b one ^ (often / 2) * el t π n b one ^ (often / 2)) := by
        rw [← pow_mul' _ _ 0]
        exact s2.pow O.sub (O.el _) (O.sub.mul _ _ (O.el _) (O.el _)) _
      by_cases hodd : often % 2 = 1
      · rw [if_pos hodd]
        have he : often = often / 2 + often / 2 + 1 := by omega
        cases found with
        | none =>
          dsimp only
          obtain ⟨r, r1, r2, r3⟩ := raisedF_ok X O fuel (some one) ((Od.mk f p b).rprod one one) (often / 2) (by omega) (fun c e => by cases e; exact ho) s1 (fun e => by cases e)
          refine ⟨r, r1, r2, r3.trans O.sub ?_⟩
          dsimp only
          have e2 : el t π n b one ^ often = el t π n b one * (el t π n b one ^ (often / 2) * el t π n b one ^ (often / 2)) := by
            have : el t π n b one ^ often = el t π n b one ^ (often / 2 + often / 2 + 1) := by rw [← he]
            rw [this, Semiring.pow_succ, Semiring.pow_add]; grind
          rw [e2]
          have e3 : (1 : A) * (el t π n b one * (el t π n b one ^ (often / 2) * el t π n b one ^ (often / 2))) = el t π n b one * (el t π n b one ^ (often / 2) * el t π n b one ^ (often / 2)) := by grind
          rw [e3]
          exact (Eqp.refl O.sub _).mul O.sub hsq (O.sub.pow (O.el _) _) (O.el _)
        | some c =>
          dsimp only
          obtain ⟨q1, q2⟩ := rprod_ok X O (hf c rfl) ho
          obtain ⟨r, r1, r2, r3⟩ := raisedF_ok X O fuel (some ((Od.mk f p b).rprod c one)) ((Od.mk f p b).rprod one one) (often / 2) (by omega) (fun c e => by cases e; exact q1) s1 (fun e => by cases e)
          refine ⟨r, r1, r2, r3.trans O.sub ?_⟩
          dsimp only
          have e2 : el t π n b c * el t π n b one ^ often = (el t π n b c * el t π n b one) * (el t π n b one ^ (often / 2) * el t π n b one ^ (often / 2)) := by
            have : el t π n b one ^ often = el t π n b one ^ (often / 2 + often / 2 + 1) := by rw [← he]
            rw [this, Semiring.pow_succ, Semiring.pow_add]; grind
          rw [e2]
          exact q2.mul O.sub hsq (O.sub.pow (O.el _) _) (O.sub.mul _ _ (O.el _) (O.el _))
      · rw [if_neg hodd]
        have he : often = often / 2 + often / 2 := by omega
        obtain ⟨r, r1, r2, r3⟩ := raisedF_ok X O fuel found ((Od.mk f p b).rprod one one) (often / 2) (by omega) hf s1 (fun e => by have := hn e; omega)
        refine ⟨r, r1, r2, r3.trans O.sub ?_⟩
        have e2 : el t π n b one ^ often = el t π n b one ^ (often / 2) * el t π n b one ^ (often / 2) := by
          have : el t π n b one ^ often = el t π n b one ^ (often / 2 + often / 2) := by rw [← he]
          rw [this, Semiring.pow_add]
        rw [e2]
        refine (Eqp.refl O.sub _).mul O.sub hsq (O.sub.pow (O.el _) _) ?_
        cases found with
        | none => exact O.sub.one
        | some c => exact O.el _
theorem raised_ok (X : Ctx t π p n f) (O : OrdOk t π p n b) {x : L} (hx : x.length = n) {m : Nat} (hm : 0 < m) :
    ((Od.mk f p b).raised x m).length = n ∧ Eqp (OO t π n b) p (el t π n b ((Od.mk f p b).raised x m)) (el t π n b x ^ m) := by
  obtain ⟨r, r1, r2, r3⟩ := raisedF_ok X O (m + 1) none x m (by omega) (fun c e => by cases e) hx fun _ => hm
  unfold Od.raised
  rw [r1]
  refine ⟨r2, ?_⟩
  dsimp only at r3
  have e3 : (1 : A) * el t π n b x ^ m = el t π n b x ^ m := by grind
  rw [e3] at r3
  exact r3
theorem el_unit {i : Nat} (hi : i < n) : el t π n b (unit n i) = eOf t π b i :=
  lin_one _ hi (by rw [at_unit]; simp [hi]) fun d hd hne => by rw [at_unit, if_neg (by omega)]
theorem getD_units (n i : Nat) (h : i < n) : (units n).getD i [] = unit n i := by unfold units; rw [getD_range, if_pos h]
theorem oftenF_ok {p : Nat} (many : Nat) : ∀ (fuel k : Nat), ∃ j, oftenF p many fuel ((p : Int) ^ k) = (p : Int) ^ j
  | 0, k => ⟨k, rfl⟩
  | fuel + 1, k => by
    unfold oftenF
    split
    · rw [← Int.pow_succ]; exact oftenF_ok many fuel (k + 1)
    · exact ⟨k, rfl⟩
theorem often_ok (o : Od) (p : Nat) (h : o.p = p) : ∃ j, o.often = (p : Int) ^ j ∧ o.often.toNat = p ^ j := by
  obtain ⟨j, hj⟩ := oftenF_ok (p := p) o.rows.length o.rows.length 1
  rw [Int.pow_one] at hj
  refine ⟨j, by unfold Od.often; rw [h]; exact hj, ?_⟩
  unfold Od.often
  rw [h, hj, ← Int.natCast_pow]; exact Int.toNat_natCast _
end
end Bd
set_option linter.all false
namespace Bd
open Lean.Grind
section
variable {A : Type} [CommRing A] {t π : A} {p n : Nat} {f : L} {b : B}
/-- p times the order -/
def pO (O : A → Prop) (p : Nat) (x : A) : Prop := ∃ w, O w ∧ x = (p : A) * w
theorem pO.of_eqp {O : A → Prop} {x y : A} (H : SubR O) (h : Eqp O p x y) (hy : pO O p y) : pO O p x := by
  obtain ⟨w, hw, e⟩ := h
  obtain ⟨v, hv, e2⟩ := hy
  exact ⟨w + v, H.add _ _ hw hv, by grind⟩
theorem pO_lin (X : Ctx t π p n f) (O : OrdOk t π p n b) {z : Nat → Int} (h : pO (OO t π n b) p (lin n (eOf t π b) z)) : ∀ d, d < n → (p : Int) ∣ z d := fun d hd => by
  obtain ⟨w, ⟨c, hc⟩, e⟩ := h
  have : lin n (eOf t π b) z = lin n (eOf t π b) fun d => (p : Int) * c d := by rw [lin_scale, castNI, ← hc]; exact e
  exact ⟨c d, indep' X O.G.gk this d hd⟩
theorem lin_pO (O : OrdOk t π p n b) {z : Nat → Int} (h : ∀ d, d < n → (p : Int) ∣ z d) : pO (OO t π n b) p (lin n (eOf t π b) z) := by
  refine ⟨lin n (eOf t π b) fun d => z d / p, ⟨_, rfl⟩, ?_⟩
  rw [← castNI (A := A) p, ← lin_scale]
  exact lin_congr (fun d hd => (Int.mul_ediv_cancel' (h d hd)).symm) fun _ _ => rfl
/-- what has a power in p times the order -/
def II (t π : A) (n p q : Nat) (b : B) (x : A) : Prop := OO t π n b x ∧ pO (OO t π n b) p (x ^ q)
structure Ideal (O I : A → Prop) (p : Nat) : Prop where
  sub : ∀ x, I x → O x
  add : ∀ x y, I x → I y → I (x + y)
  mul : ∀ x y, O x → I y → I (x * y)
  p : I (p : A)
theorem Ideal.neg {O I : A → Prop} (H : SubR O) (J : Ideal O I p) {x : A} (h : I x) : I (-x) := by
  have := J.mul _ _ (H.neg _ H.one) h
  have e : -(1 : A) * x = -x := by grind
  rwa [e] at this
theorem Ideal.zero {O I : A → Prop} (H : SubR O) (J : Ideal O I p) : I 0 := by
  have := J.mul _ _ H.zero J.p
  have e : (0 : A) * (p : A) = 0 := by grind
  rwa [e] at this
theorem Ideal.lin {O I : A → Prop} (H : SubR O) (J : Ideal O I p) {m : Nat} {e : Nat → A} (h : ∀ i, i < m → I (e i)) (z : Nat → Int) : I (lin m e z) := by
  unfold Bd.lin
  induction m with
  | zero => exact J.zero H
  | succ m ih => exact J.add _ _ (ih fun i hi => h i (by omega)) (J.mul _ _ (H.int _) (h m (by omega)))
/-- the matrix whose kernel is wanted -/
theorem rad_iff (X : Ctx t π p n f) (O : OrdOk t π p n b) (k : Nat) {T : LL} (hT : ∀ i, i < n → Eqp (OO t π n b) p (lin n (eOf t π b) (ent T i)) (eOf t π b i ^ p ^ k)) (z : Nat → Int) :
    pO (OO t π n b) p (lin n (eOf t π b) z ^ p ^ k) ↔ ∀ l, l < n → (p : Int) ∣ SI n fun i => z i * ent T i l := by
  have h1 := frobL X.pb O.sub (fun i hi => O.eO hi) z k
  have h2 : Eqp (OO t π n b) p (lin n (fun i => eOf t π b i ^ p ^ k) z) (lin n (fun i => lin n (eOf t π b) (ent T i)) z) := Eqp.S O.sub fun i hi =>
    (Eqp.refl O.sub _).mul O.sub ((hT i hi).symm O.sub) (O.sub.pow (O.eO hi) _) (O.sub.int _)
  have h3 := h1.trans O.sub h2
  rw [← lin_SI] at h3
  refine ⟨fun h => pO_lin X O (pO.of_eqp O.sub (h3.symm O.sub) h), fun h => pO.of_eqp O.sub h3 (lin_pO O h)⟩
theorem II_ideal (X : Ctx t π p n f) (O : OrdOk t π p n b) (k : Nat) {T : LL} (hT : ∀ i, i < n → Eqp (OO t π n b) p (lin n (eOf t π b) (ent T i)) (eOf t π b i ^ p ^ k)) : Ideal (OO t π n b) (II t π n p (p ^ k) b) p where
  sub := fun x h => h.1
  add := fun x y hx hy => by
    obtain ⟨⟨c, rfl⟩, h1⟩ := hx
    obtain ⟨⟨c', rfl⟩, h2⟩ := hy
    rw [← lin_add]
    refine ⟨⟨_, rfl⟩, (rad_iff X O k hT _).mpr fun l hl => ?_⟩
    have e : SI n (fun i => (c i + c' i) * ent T i l) = SI n (fun i => c i * ent T i l) + SI n (fun i => c' i * ent T i l) := by rw [← SI_add]; exact SI_congr fun i _ => by grind
    rw [e]
    exact Int.dvd_add ((rad_iff X O k hT _).mp h1 l hl) ((rad_iff X O k hT _).mp h2 l hl)
  mul := fun x y hx hy => by
    obtain ⟨hy1, w, hw, e⟩ := hy
    refine ⟨O.sub.mul _ _ hx hy1, x ^ p ^ k * w, O.sub.mul _ _ (O.sub.pow hx _) hw, ?_⟩
    rw [mul_pow, e]; grind
  p := by
    refine ⟨O.sub.nat p, ?_⟩
    have hp : p ^ k = (p ^ k - 1) + 1 := by have := Nat.pow_pos (n := k) (show 0 < p by have := X.P.two; omega); omega
    rw [hp, Semiring.pow_succ]
    exact ⟨(p : A) ^ (p ^ k - 1), O.sub.pow (O.sub.nat p) _, by grind⟩
theorem Low_of_ker {T N : LL} {m wide : Nat} (K : KerOk T N m wide p) : Low N m p m := by
  have hp : ∀ r ∈ N, ∃ i, ∀ j, at_ r j = ent N i j := fun r hr => by
    obtain ⟨i, hi, rfl⟩ := List.getElem_of_mem hr
    exact ⟨i, fun j => by unfold ent; rw [List.getD_eq_getElem?_getD, List.getElem?_eq_getElem hi]; rfl⟩
  refine ⟨K.wid, fun r hr j => ?_, fun r hr j hj => at_ge (by rw [K.wid r hr]; exact hj)⟩
  obtain ⟨i, hi⟩ := hp r hr
  rw [hi]; exact ⟨K.lo _ _, K.hi _ _⟩
/-- the lattice of a kernel is what vanishes -/
theorem W_ker {T N : LL} {m wide : Nat} (K : KerOk T N m wide p) (z : Nat → Int) : W N m p z ↔ ∀ c, c < wide → (p : Int) ∣ SI m fun l => z l * ent T l c := by
  constructor
  · intro ⟨s, h1, h2⟩ c hc
    have h3 : (p : Int) ∣ SI m (fun l => z l * ent T l c) - SI m (fun l => s l * ent T l c) := dvd_SI_sub fun l hl => by
      have e : z l * ent T l c - s l * ent T l c = (z l - s l) * ent T l c := by grind
      rw [e]; exact Int.dvd_mul_of_dvd_left (h2 l hl)
    have h4 : (p : Int) ∣ SI m (fun l => s l * ent T l c) := by
      obtain ⟨y, hy⟩ := h1.toSum
      have e : SI m (fun l => s l * ent T l c) = SI N.length (fun i => y i * SI m (fun l => ent N i l * ent T l c)) := by
        have a : SI m (fun l => s l * ent T l c) = SI m (fun l => SI N.length (fun i => y i * ent N i l * ent T l c)) := SI_congr fun l _ => by rw [hy l, ← SI_mulr]
        rw [a, SI_swap]; exact SI_congr fun i _ => by rw [← SI_mul]; exact SI_congr fun l _ => by grind
      rw [e]
      exact dvd_SI fun i hi => Int.dvd_mul_of_dvd_right (K.van i hi c hc)
    have := Int.dvd_add h3 h4
    have e : SI m (fun l => z l * ent T l c) - SI m (fun l => s l * ent T l c) + SI m (fun l => s l * ent T l c) = SI m (fun l => z l * ent T l c) := by omega
    rwa [e] at this
  · intro h
    obtain ⟨y, hy⟩ := K.gen z h
    exact ⟨_, Sp.ofSum N y N.length (Nat.le_refl _), hy⟩
theorem rows_n (X : Ctx t π p n f) (G : GoodB p n b) : (Od.mk f p b).rows.length = n := by rw [len_rows]; exact G.len
/-- the table of powers -/
theorem T1_ok (X : Ctx t π p n f) (O : OrdOk t π p n b) {q : Nat} (hq : 0 < q) :
    ((units n).map fun u => (Od.mk f p b).raised u q).length = n ∧ (∀ i, i < n → (((units n).map fun u => (Od.mk f p b).raised u q).getD i []).length = n) ∧
    ∀ i, i < n → Eqp (OO t π n b) p (lin n (eOf t π b) (ent ((units n).map fun u => (Od.mk f p b).raised u q) i)) (eOf t π b i ^ q) := by
  have hg : ∀ i, i < n → ((units n).map fun u => (Od.mk f p b).raised u q).getD i [] = (Od.mk f p b).raised (unit n i) q := fun i hi => by
    unfold units
    rw [List.map_map, getD_range, if_pos hi]; rfl
  refine ⟨by simp [len_units], fun i hi => ?_, fun i hi => ?_⟩
  · rw [hg i hi]; exact (raised_ok X O (len_unit n i) hq).1
  · have h := (raised_ok X O (len_unit n i) hq).2
    rw [el_unit hi] at h
    have e : lin n (eOf t π b) (ent ((units n).map fun u => (Od.mk f p b).raised u q) i) = el t π n b ((Od.mk f p b).raised (unit n i) q) := lin_congr (fun d hd => by unfold ent; rw [hg i hi]) fun _ _ => rfl
    rw [e]; exact h
/-- the ideal's basis -/
structure IdOk (t π : A) (n p : Nat) (b : B) (I : A → Prop) (C : LL) : Prop where
  J : Ideal (OO t π n b) I p
  len : C.length = n
  wid : ∀ r ∈ C, r.length = n
  rng : ∀ d, d < n → ∀ j, 0 ≤ ent C d j ∧ ent C d j ≤ p
  diag : ∀ d, d < n → ent C d d = 1 ∨ ent C d d = p
  tri : Tri n (ent C)
  inI : ∀ d, d < n → I (lin n (eOf t π b) (ent C d))
  gen : ∀ x, I x → ∃ z : Nat → Int, x = lin n (fun d => lin n (eOf t π b) (ent C d)) z
theorem ideal_ok (X : Ctx t π p n f) (O : OrdOk t π p n b) : ∃ I, IdOk t π n p b I (Od.mk f p b).ideal := by
  obtain ⟨j, _, hj⟩ := often_ok (Od.mk f p b) p rfl
  have hq : 0 < p ^ j := Nat.pow_pos (by have := X.P.two; omega)
  obtain ⟨a1, a2, a3⟩ := T1_ok X O hq
  have hn := rows_n X O.G
  have K := ker_ok (wide := n) X.P a1 a2
  have e1 : (Od.mk f p b).some1 = ker ((units n).map fun u => (Od.mk f p b).raised u (p ^ j)) n p := by unfold Od.some1; rw [hn, hj]
  have e2 : (Od.mk f p b).ideal = bo (Od.mk f p b).some1 (timesP n p) n p := by unfold Od.ideal; rw [hn]
  rw [← e1] at K
  have Bo := bo_ok X.P (Low_of_ker K)
  rw [← e2] at Bo
  have J := II_ideal X O j a3
  have hW : ∀ z, W (Od.mk f p b).some1 n p z ↔ II t π n p (p ^ j) b (lin n (eOf t π b) z) := fun z => by
    rw [W_ker K, ← rad_iff X O j a3]
    exact ⟨fun h => ⟨⟨_, rfl⟩, h⟩, fun h => h.2⟩
  refine ⟨_, J, Bo.len, Bo.wid, Bo.rng, Bo.diag, fun d hd => ⟨?_, Bo.low d hd⟩, fun d hd => (hW _).mp (Bo.inW d hd), fun x hx => ?_⟩
  · have := X.P.pos
    rcases Bo.diag d hd with h | h <;> omega
  · obtain ⟨c, rfl⟩ := hx.1
    obtain ⟨z, hz⟩ := Bo.gen c ((hW c).mpr hx)
    refine ⟨z, ?_⟩
    rw [← lin_SI]
    exact lin_congr hz fun _ _ => rfl
/-- rows end to end -/
theorem at_flatten (n : Nat) : ∀ (r : LL), (∀ x ∈ r, x.length = n) → ∀ j l, j < r.length → l < n → at_ r.flatten (j * n + l) = ent r j l
  | [], _, j, l, h, _ => by simp at h
  | a :: r, hw, j, l, h, hl => by
    rw [List.flatten_cons, at_append, hw a List.mem_cons_self]
    cases j with
    | zero => rw [if_pos (by omega)]; simp [ent]
    | succ j =>
      rw [if_neg (by rw [Nat.succ_mul]; omega)]
      have e : (j + 1) * n + l - n = j * n + l := by rw [Nat.succ_mul]; omega
      rw [e, at_flatten n r (fun x hx => hw x (List.mem_cons_of_mem _ hx)) j l (by simpa using h) hl]
      simp [ent]
theorem len_flatten (n : Nat) : ∀ (r : LL), (∀ x ∈ r, x.length = n) → r.flatten.length = r.length * n
  | [], _ => by simp
  | a :: r, hw => by
    rw [List.flatten_cons, List.length_append, hw a List.mem_cons_self, len_flatten n r fun x hx => hw x (List.mem_cons_of_mem _ hx), List.length_cons, Nat.succ_mul]; omega
/-- what takes the ideal into p times it -/
theorem T2_ok (X : Ctx t π p n f) (O : OrdOk t π p n b) {I : A → Prop} (K : IdOk t π n p b I (Od.mk f p b).ideal) :
    ((units n).map (Od.mk f p b).line).length = n ∧ (∀ i, i < n → (((units n).map (Od.mk f p b).line).getD i []).length = n * n) ∧
    ∀ i j, i < n → j < n → eOf t π b i * lin n (eOf t π b) (ent (Od.mk f p b).ideal j) = lin n (fun d => lin n (eOf t π b) (ent (Od.mk f p b).ideal d)) fun l => ent ((units n).map (Od.mk f p b).line) i (j * n + l) := by
  have hC : ∀ j, j < n → ((Od.mk f p b).ideal.getD j []).length = n := fun j hj => K.wid _ (by
    rw [List.getD_eq_getElem?_getD, List.getElem?_eq_getElem (by rw [K.len]; exact hj)]; exact List.getElem_mem _)
  have hpr : ∀ i x, x.length = n → ((Od.mk f p b).prod (unit n i) x).length = n := fun i x hx => (prod_ok X O (len_unit n i) hx).1
  have hg : ∀ i, i < n → ((units n).map (Od.mk f p b).line).getD i [] = (Od.mk f p b).line (unit n i) := fun i hi => by
    unfold units
    rw [List.map_map, getD_range, if_pos hi]; rfl
  have hw : ∀ i, ∀ x ∈ ((Od.mk f p b).ideal.map fun other => bi (Od.mk f p b).ideal ((Od.mk f p b).prod (unit n i) other)), x.length = n := fun i x hx => by
    obtain ⟨o, ho, rfl⟩ := List.mem_map.mp hx
    rw [len_bi, hpr i o (K.wid o ho)]
  refine ⟨by simp [len_units], fun i hi => ?_, fun i j hi hj => ?_⟩
  · rw [hg i hi]; unfold Od.line; rw [len_flatten n _ (hw i)]; simp [K.len]
  · have hent : ∀ l, l < n → ent ((units n).map (Od.mk f p b).line) i (j * n + l) = at_ (bi (Od.mk f p b).ideal ((Od.mk f p b).prod (unit n i) ((Od.mk f p b).ideal.getD j []))) l := fun l hl => by
      unfold ent
      rw [hg i hi]
      unfold Od.line
      rw [at_flatten n _ (hw i) j l (by simp [K.len, hj]) hl]
      unfold ent
      congr 1
      simp only [List.getD_eq_getElem?_getD, List.getElem?_map]
      rw [List.getElem?_eq_getElem (by rw [K.len]; exact hj)]; rfl
    obtain ⟨q1, q2⟩ := prod_ok X O (len_unit n i) (hC j hj)
    rw [el_unit hi] at q2
    have hI : I (el t π n b ((Od.mk f p b).prod (unit n i) ((Od.mk f p b).ideal.getD j []))) := by
      rw [q2]; exact K.J.mul _ _ (O.eO hi) (K.inI j hj)
    obtain ⟨z, hz⟩ := K.gen _ hI
    have hz' : ∀ l, l < n → at_ ((Od.mk f p b).prod (unit n i) ((Od.mk f p b).ideal.getD j [])) l = SI n fun d => z d * ent (Od.mk f p b).ideal d l := by
      rw [← lin_SI] at hz
      exact indep' X O.G.gk hz
    obtain ⟨_, hb⟩ := bi_ok K.tri q1 hz'
    have e1 : lin n (fun d => lin n (eOf t π b) (ent (Od.mk f p b).ideal d)) (fun l => ent ((units n).map (Od.mk f p b).line) i (j * n + l)) = lin n (fun d => lin n (eOf t π b) (ent (Od.mk f p b).ideal d)) z :=
      lin_congr (fun l hl => by rw [hent l hl, hb l hl]) fun _ _ => rfl
    rw [e1, ← hz, q2]; rfl
theorem indepI (X : Ctx t π p n f) (O : OrdOk t π p n b) {I : A → Prop} {C : LL} (K : IdOk t π n p b I C) {z z' : Nat → Int} (h : lin n (fun d => lin n (eOf t π b) (ent C d)) z = lin n (fun d => lin n (eOf t π b) (ent C d)) z') : ∀ d, d < n → z d = z' d := by
  rw [← lin_SI, ← lin_SI] at h
  have h1 := indep' X O.G.gk h
  intro d hd
  have := K.tri.inj n (fun d => z d - z' d) (Nat.le_refl _) (fun l hl => by
    have h2 := h1 l hl
    have e : SI n (fun d => (z d - z' d) * ent C d l) = SI n (fun d => z d * ent C d l) - SI n (fun d => z' d * ent C d l) := by rw [← SI_sub]; exact SI_congr fun i _ => by grind
    rw [e, h2]; omega) d hd
  omega
/-- the greater ring -/
def O2 (t π : A) (n : Nat) (b : B) (p : Nat) (I : A → Prop) (x : A) : Prop := ∃ y, OO t π n b y ∧ x = π * y ∧ ∀ v, I v → I (x * v)
theorem O2_sub (X : Ctx t π p n f) (O : OrdOk t π p n b) {I : A → Prop} (J : Ideal (OO t π n b) I p) : SubR (O2 t π n b p I) ∧ ∀ x, OO t π n b x → O2 t π n b p I x := by
  have hO : ∀ x, OO t π n b x → O2 t π n b p I x := fun x hx => ⟨(p : A) * x, O.sub.mul _ _ (O.sub.nat p) hx, by have := X.pi; grind, fun v hv => J.mul _ _ hx hv⟩
  refine ⟨⟨hO _ O.sub.one, fun x y hx hy => ?_, fun x y hx hy => ?_, fun x hx => ?_⟩, hO⟩
  · obtain ⟨a, a1, a2, a3⟩ := hx
    obtain ⟨c, c1, c2, c3⟩ := hy
    refine ⟨a + c, O.sub.add _ _ a1 c1, by grind, fun v hv => ?_⟩
    have := J.add _ _ (a3 v hv) (c3 v hv)
    have e : x * v + y * v = (x + y) * v := by grind
    rwa [e] at this
  · obtain ⟨a, a1, a2, a3⟩ := hx
    obtain ⟨c, c1, c2, c3⟩ := hy
    have h1 : I (x * (y * (p : A))) := a3 _ (c3 _ J.p)
    refine ⟨x * (y * (p : A)), J.sub _ h1, by have := X.pi; grind, fun v hv => ?_⟩
    have := a3 _ (c3 v hv)
    have e : x * (y * v) = x * y * v := by grind
    rwa [e] at this
  · obtain ⟨a, a1, a2, a3⟩ := hx
    refine ⟨-a, O.sub.neg _ a1, by grind, fun v hv => ?_⟩
    have := J.neg O.sub (a3 v hv)
    have e : -(x * v) = -x * v := by grind
    rwa [e] at this
/-- what of the greater ring the second kernel tells -/
theorem O2_iff (X : Ctx t π p n f) (O : OrdOk t π p n b) {I : A → Prop} (K : IdOk t π n p b I (Od.mk f p b).ideal) (z : Nat → Int) :
    W (Od.mk f p b).some2 n p z ↔ O2 t π n b p I (π * lin n (eOf t π b) z) := by
  obtain ⟨a1, a2, a3⟩ := T2_ok X O K
  have KK := ker_ok (wide := n * n) X.P a1 a2
  have e1 : (Od.mk f p b).some2 = ker ((units n).map (Od.mk f p b).line) (n * n) p := by
    unfold Od.some2; rw [rows_n X O.G, K.len]
  rw [e1, W_ker KK]
  have key : ∀ j, j < n → lin n (eOf t π b) z * lin n (eOf t π b) (ent (Od.mk f p b).ideal j) = lin n (fun d => lin n (eOf t π b) (ent (Od.mk f p b).ideal d)) fun l => SI n fun i => z i * ent ((units n).map (Od.mk f p b).line) i (j * n + l) := fun j hj => by
    rw [lin_SI n n _ z (fun i l => ent ((units n).map (Od.mk f p b).line) i (j * n + l))]
    have e : lin n (eOf t π b) z = S n (fun i => (z i : A) * eOf t π b i) := rfl
    rw [e, ← S_mulr]
    exact S_congr fun i hi => by
      have := a3 i j hi hj
      rw [Semiring.mul_assoc, this]
  constructor
  · intro h
    refine ⟨_, ⟨z, rfl⟩, rfl, fun v hv => ?_⟩
    obtain ⟨y, rfl⟩ := K.gen v hv
    have hj : ∀ j, j < n → I (π * lin n (eOf t π b) z * lin n (eOf t π b) (ent (Od.mk f p b).ideal j)) := fun j hj => by
      have e : π * lin n (eOf t π b) z * lin n (eOf t π b) (ent (Od.mk f p b).ideal j) = lin n (fun d => lin n (eOf t π b) (ent (Od.mk f p b).ideal d)) fun l => (SI n fun i => z i * ent ((units n).map (Od.mk f p b).line) i (j * n + l)) / p := by
        have e2 : lin n (eOf t π b) z * lin n (eOf t π b) (ent (Od.mk f p b).ideal j) = (p : A) * lin n (fun d => lin n (eOf t π b) (ent (Od.mk f p b).ideal d)) fun l => (SI n fun i => z i * ent ((units n).map (Od.mk f p b).line) i (j * n + l)) / p := by
          rw [key j hj, ← castNI (A := A) p, ← lin_scale]
          exact lin_congr (fun l hl => (Int.mul_ediv_cancel' (h (j * n + l) (by
            have : j * n + n ≤ n * n := by have := Nat.mul_le_mul_right n (show j + 1 ≤ n by omega); rw [Nat.succ_mul] at this; exact this
            omega))).symm) fun _ _ => rfl
        have := X.pi
        grind
      rw [e]
      exact K.J.lin O.sub (fun d hd => K.inI d hd) _
    have e : π * lin n (eOf t π b) z * lin n (fun d => lin n (eOf t π b) (ent (Od.mk f p b).ideal d)) y = lin n (fun d => π * lin n (eOf t π b) z * lin n (eOf t π b) (ent (Od.mk f p b).ideal d)) y := by
      generalize π * lin n (eOf t π b) z = a
      unfold lin
      rw [← S_mul]; exact S_congr fun d _ => by grind
    rw [e]
    exact K.J.lin O.sub hj _
  · intro ⟨_, _, _, h⟩ c hc
    have hn : 0 < n := X.n0
    have hcj : c = (c / n) * n + c % n := by have := Nat.div_add_mod c n; rw [Nat.mul_comm] at this; exact this.symm
    have hjn : c / n < n := Nat.div_lt_of_lt_mul hc
    have hln : c % n < n := Nat.mod_lt _ hn
    have h1 := h _ (K.inI (c / n) hjn)
    obtain ⟨y, hy⟩ := K.gen _ h1
    have e2 : lin n (fun d => lin n (eOf t π b) (ent (Od.mk f p b).ideal d)) (fun l => SI n fun i => z i * ent ((units n).map (Od.mk f p b).line) i (c / n * n + l)) = lin n (fun d => lin n (eOf t π b) (ent (Od.mk f p b).ideal d)) fun l => (p : Int) * y l := by
      rw [← key (c / n) hjn, lin_scale, castNI, ← hy]
      have := X.pi; grind
    have h3 := indepI X O K e2 (c % n) hln
    rw [hcj]
    exact ⟨_, h3⟩
/-- from a ring: what is exact -/
theorem exact_of (X : Ctx t π p n f) {O' : A → Prop} (H : SubR O') (ht : O' t) {R : LL} {M : Nat} (hR : ∀ v, W R n ((p : Int) ^ M) v ↔ O' (evf t n v * π ^ M)) : Exact R n p M := by
  have hpow : ∀ k v, (∀ l, l < n → v l = if l = k then (p : Int) ^ M else 0) → k < n → W R n ((p : Int) ^ M) v := fun k v hv hk => by
    refine W.ofN fun l hl => ?_
    rw [hv l hl]; split
    · exact Int.dvd_refl _
    · exact Int.dvd_zero _
  -- the shift
  have hsh : ∀ v, W R n ((p : Int) ^ M) v → ∀ d, d + 1 < n → (∀ l, d < l → l < n → v l = 0) → W R n ((p : Int) ^ M) fun l => if l = 0 then 0 else v (l - 1) := fun v hv d hd h0 => by
    rw [hR] at hv ⊢
    have h1 := H.mul _ _ ht hv
    obtain ⟨m, rfl⟩ : ∃ m, n = m + 1 := ⟨n - 1, by omega⟩
    have e : evf t (m + 1) (fun l => if l = 0 then 0 else v (l - 1)) = t * evf t (m + 1) v := by
      unfold evf
      rw [S_shift, ← S_mul]
      have e1 : S (m + 1) (fun i => t * ((v i : A) * t ^ i)) = S m (fun i => t * ((v i : A) * t ^ i)) + t * ((v m : A) * t ^ m) := rfl
      rw [e1, h0 m (by omega) (by omega)]
      have e2 : S m (fun i => ((if i + 1 = 0 then 0 else v (i + 1 - 1) : Int) : A) * t ^ (i + 1)) = S m (fun i => t * ((v i : A) * t ^ i)) := S_congr fun i _ => by
        rw [if_neg (by omega), Semiring.pow_succ]
        have : i + 1 - 1 = i := by omega
        rw [this]; grind
      rw [e2]; simp only [if_true]; grind
    rw [e]
    have e3 : t * evf t (m + 1) v * π ^ M = t * (evf t (m + 1) v * π ^ M) := by grind
    rw [e3]; exact h1
  have key : ∀ d, d < n → ∀ a, a ≤ M → (∀ x, W R n ((p : Int) ^ M) x → (∀ l, d < l → l < n → x l = 0) → (p : Int) ^ a ∣ x d) →
      ∀ x, W R n ((p : Int) ^ M) x → (∀ l, d < l → l < n → x l = 0) → ∀ l, l < n → (p : Int) ^ a ∣ x l := by
    intro d
    induction d with
    | zero =>
      intro hd a ha h x hx h0 l hl
      by_cases e : l = 0
      · subst e; exact h x hx h0
      · rw [h0 l (by omega) hl]; exact Int.dvd_zero _
    | succ d ih =>
      intro hd a ha h x hx h0 l hl
      have ih := ih (by omega)
      -- the greatest power that divides all numbers at d
      have hmax : ∃ c, a ≤ c ∧ c ≤ M ∧ (∀ x, W R n ((p : Int) ^ M) x → (∀ l, d < l → l < n → x l = 0) → (p : Int) ^ c ∣ x d) ∧ ∃ y, W R n ((p : Int) ^ M) y ∧ (∀ l, d < l → l < n → y l = 0) ∧ y d = (p : Int) ^ c := by
        have hdiv : ∀ x, W R n ((p : Int) ^ M) x → (∀ l, d < l → l < n → x l = 0) → (p : Int) ^ a ∣ x d := fun x hx h0 => by
          have := h _ (hsh x hx d (by omega) h0) (fun l h1 h2 => by
            rw [if_neg (by omega)]; exact h0 _ (by omega) (by omega))
          have e : (if d + 1 = 0 then 0 else x (d + 1 - 1)) = x d := by rw [if_neg (by omega)]; congr 1
          rwa [e] at this
        have step : ∀ k c, M - c = k → a ≤ c → c ≤ M → (∀ x, W R n ((p : Int) ^ M) x → (∀ l, d < l → l < n → x l = 0) → (p : Int) ^ c ∣ x d) →
            ∃ c, a ≤ c ∧ c ≤ M ∧ (∀ x, W R n ((p : Int) ^ M) x → (∀ l, d < l → l < n → x l = 0) → (p : Int) ^ c ∣ x d) ∧ ∃ y, W R n ((p : Int) ^ M) y ∧ (∀ l, d < l → l < n → y l = 0) ∧ y d = (p : Int) ^ c := by
          intro k
          induction k with
          | zero =>
            intro c hk hac hcM hc
            have : c = M := by omega
            subst this
            exact ⟨c, hac, hcM, hc, fun l => if l = d then (p : Int) ^ c else 0, hpow d _ (fun l _ => rfl) (by omega), fun l h1 _ => if_neg (by omega), by simp⟩
          | succ k ihk =>
            intro c hk hac hcM hc
            by_cases hall : ∀ x, W R n ((p : Int) ^ M) x → (∀ l, d < l → l < n → x l = 0) → (p : Int) ^ (c + 1) ∣ x d
            · exact ihk (c + 1) (by omega) (by omega) (by omega) hall
            · obtain ⟨x, hx⟩ := Classical.not_forall.mp hall
              obtain ⟨hx1, hx⟩ := Classical.not_imp.mp hx
              obtain ⟨hx0, hx⟩ := Classical.not_imp.mp hx
              obtain ⟨u, hu⟩ := hc x hx1 hx0
              have hup : ¬ (p : Int) ∣ u := fun q => hx (by rw [hu, Int.pow_succ]; exact Int.mul_dvd_mul (Int.dvd_refl _) q)
              have hinv := inv_pk X.P M hup
              refine ⟨c, hac, hcM, hc, fun l => inv u ((p : Int) ^ M) * x l + (if l = d then (p : Int) ^ c - inv u ((p : Int) ^ M) * x d else 0), ((hx1.scale (inv u ((p : Int) ^ M))).sum (W.ofN fun l _ => ?_)), fun l h1 h2 => ?_, ?_⟩
              · split
                · rw [hu]
                  have e : (p : Int) ^ c - inv u ((p : Int) ^ M) * ((p : Int) ^ c * u) = -((p : Int) ^ c * (inv u ((p : Int) ^ M) * u - 1)) := by grind
                  rw [e]; exact Int.dvd_neg.mpr (Int.dvd_mul_of_dvd_right hinv)
                · exact Int.dvd_zero _
              · dsimp only; rw [hx0 l h1 h2, if_neg (by omega)]; simp
              · dsimp only; rw [if_pos rfl]; omega
        exact step _ a rfl (Nat.le_refl _) ha hdiv
      obtain ⟨c, hac, hcM, hc, y, hy, hy0, hyd⟩ := hmax
      have hyall := ih c hcM hc y hy hy0
      -- x times p ^ (c - a) less a multiple of t y
      obtain ⟨q, hq⟩ := h x hx h0
      have hz : W R n ((p : Int) ^ M) fun l => (p : Int) ^ (c - a) * x l + -q * (if l = 0 then 0 else y (l - 1)) := (hx.scale _).sum ((hsh y hy d (by omega) hy0).scale (-q))
      have ec : (p : Int) ^ c = (p : Int) ^ (c - a) * (p : Int) ^ a := by rw [← Int.pow_add]; congr 1; omega
      have hzall := ih c hcM hc _ hz (fun l h1 h2 => by
        by_cases e : l = d + 1
        · subst e
          rw [hq, if_neg (by omega)]
          have : d + 1 - 1 = d := by omega
          rw [this, hyd, ec]; grind
        · rw [h0 l (by omega) h2, if_neg (by omega), hy0 (l - 1) (by omega) (by omega)]; simp) l hl
      have h4 : (p : Int) ^ c ∣ (if l = 0 then 0 else y (l - 1)) := by
        split
        · exact Int.dvd_zero _
        · exact hyall (l - 1) (by omega)
      have h5 : (p : Int) ^ c ∣ (p : Int) ^ (c - a) * x l := by
        have h4' : (p : Int) ^ c ∣ q * (if l = 0 then 0 else y (l - 1)) := Int.dvd_mul_of_dvd_right h4
        have := Int.dvd_add hzall h4'
        have e : (p : Int) ^ (c - a) * x l + -q * (if l = 0 then 0 else y (l - 1)) + q * (if l = 0 then 0 else y (l - 1)) = (p : Int) ^ (c - a) * x l := by grind
        rwa [e] at this
      rw [ec] at h5
      exact Int.dvd_of_mul_dvd_mul_left (by have := X.P.ppos (c - a); omega) h5
  exact key
/-- powers of the letter and whole polynomials lie in the order -/
theorem OrdOk.evO (O : OrdOk t π p n b) (v : Nat → Int) : OO t π n b (evf t n v) := O.sub.lin (fun i _ => O.sub.pow O.tO i) v
theorem fRow_succ (X : Ctx t π p n f) {M d : Nat} (hk : (kOf b d).toNat ≤ M) (l : Nat) : fRow p (M + 1) b d l = p * fRow p M b d l := by
  unfold fRow
  have : M + 1 - (kOf b d).toNat = (M - (kOf b d).toNat) + 1 := by omega
  rw [this, Int.pow_succ]; grind
/-- one round -/
theorem step_ok (X : Ctx t π p n f) (O : OrdOk t π p n b) :
    OrdOk t π p n (Od.mk f p b).greater ∧ (∀ d, d < n → kOf b d ≤ kOf (Od.mk f p b).greater d) ∧ (∀ d, d < n → GK p ((top b).toNat + 1) d (gOf (Od.mk f p b).greater d) (kOf (Od.mk f p b).greater d)) := by
  obtain ⟨I, K⟩ := ideal_ok X O
  obtain ⟨H2, hin⟩ := O2_sub X O K.J
  have G := O.G
  have hn := rows_n X G
  have h0 := G.top0 X.n0
  -- the rows
  have hw1 : ∀ r ∈ (Od.mk f p b).some2, r.length = n := by
    obtain ⟨a1, a2, _⟩ := T2_ok X O K
    have KK := ker_ok (wide := n * n) X.P a1 a2
    have e1 : (Od.mk f p b).some2 = ker ((units n).map (Od.mk f p b).line) (n * n) p := by unfold Od.some2; rw [hn, K.len]
    rw [e1]; exact KK.wid
  generalize hR : ((Od.mk f p b).some2.map fun one => rowOf (Od.mk f p b).rows one) ++ (Od.mk f p b).rows.map (fun row => row.map ((p : Int) * ·)) = R
  have hrw : ∀ r ∈ (Od.mk f p b).rows, ∃ d, d < n ∧ r = (Od.mk f p b).rows.getD d [] := fun r hr => by
    obtain ⟨d, hd, rfl⟩ := List.getElem_of_mem hr
    rw [hn] at hd
    exact ⟨d, hd, by rw [List.getD_eq_getElem?_getD, List.getElem?_eq_getElem (by rw [hn]; exact hd)]; rfl⟩
  have hw : ∀ r ∈ R, r.length = n := fun r hr => by
    rw [← hR] at hr
    rcases List.mem_append.mp hr with hr | hr
    · obtain ⟨s, hs, rfl⟩ := List.mem_map.mp hr; exact rowOf_len X G (hw1 s hs)
    · obtain ⟨s, hs, rfl⟩ := List.mem_map.mp hr
      obtain ⟨d, hd, rfl⟩ := hrw s hs
      rw [List.length_map]; exact row_len X G hd
  have hM : (top b + 1).toNat = (top b).toNat + 1 := by omega
  generalize hMM : (top b).toNat = M at *
  -- their lattice
  have hval : ∀ s, s ∈ (Od.mk f p b).some2 → evf t n (at_ (rowOf (Od.mk f p b).rows s)) * π ^ (M + 1) = π * el t π n b s := fun s hs => by
    have := ev_rowOf X G (hw1 s hs)
    rw [ev_le (n := n) (by rw [rowOf_len X G (hw1 s hs)]; omega), hMM] at this
    rw [Semiring.pow_succ, ← this]; grind
  have hval2 : ∀ d, d < n → evf t n (at_ (((Od.mk f p b).rows.getD d []).map ((p : Int) * ·))) * π ^ (M + 1) = eOf t π b d := fun d hd => by
    have e : evf t n (at_ (((Od.mk f p b).rows.getD d []).map ((p : Int) * ·))) = evf t n (fRow p (M + 1) b d) := evf_congr fun l hl => by
      rw [at_map _ _ (by simp), fRow_succ X (by have := (G.gk d hd).kM; omega)]
      have := ent_rows X G (l := l) hd
      rw [if_pos hl, hMM] at this
      unfold ent at this
      rw [this]
    rw [e]
    exact evf_fRow X (g := []) (G.up (by omega) hd) hd
  have hpM : ∀ v : Nat → Int, (∀ l, l < n → (p : Int) ^ (M + 1) ∣ v l) → O2 t π n b p I (evf t n v * π ^ (M + 1)) := fun v hv => by
    refine hin _ ?_
    have e : evf t n v * π ^ (M + 1) = evf t n fun l => v l / (p : Int) ^ (M + 1) := by
      have e2 : evf t n v = (((p : Int) ^ (M + 1) : Int) : A) * evf t n fun l => v l / (p : Int) ^ (M + 1) := by
        rw [← evf_scale]; exact evf_congr fun l hl => (Int.mul_ediv_cancel' (hv l hl)).symm
      have := X.ppi (M + 1)
      rw [e2]; grind
    rw [e]; exact O.evO _
  have hR1 : ∀ v, W R n ((p : Int) ^ (M + 1)) v ↔ O2 t π n b p I (evf t n v * π ^ (M + 1)) := fun v => by
    constructor
    · intro ⟨s, hs, hd⟩
      have h1 := hpM (fun l => v l - s l) hd
      have key : ∀ s, Sp R s → O2 t π n b p I (evf t n s * π ^ (M + 1)) := fun s hs => by
        induction hs with
        | zero =>
          have e : evf t n (fun _ => 0) * π ^ (M + 1) = 0 := by rw [evf_lin, lin_zero n _ fun _ _ => rfl]; grind
          rw [e]; exact H2.zero
        | @add x y r hr hx ih =>
          have e : evf t n (fun l => x l + y * at_ r l) * π ^ (M + 1) = evf t n x * π ^ (M + 1) + (y : A) * (evf t n (at_ r) * π ^ (M + 1)) := by
            rw [evf_lin, lin_add, lin_scale, ← evf_lin, ← evf_lin]; grind
          rw [e]
          refine H2.add _ _ ih (H2.mul _ _ (H2.int _) ?_)
          rw [← hR] at hr
          rcases List.mem_append.mp hr with hr | hr
          · obtain ⟨s, hs, rfl⟩ := List.mem_map.mp hr
            rw [hval s hs]
            exact (O2_iff X O K _).mp (W.ofSp (Sp.mem hs))
          · obtain ⟨s, hs, rfl⟩ := List.mem_map.mp hr
            obtain ⟨d, hd, rfl⟩ := hrw s hs
            rw [hval2 d hd]
            exact hin _ (O.eO hd)
      have h3 := H2.add _ _ h1 (key s hs)
      have e : evf t n (fun l => v l - s l) * π ^ (M + 1) + evf t n s * π ^ (M + 1) = evf t n v * π ^ (M + 1) := by
        rw [evf_lin, lin_sub, ← evf_lin, ← evf_lin]; grind
      rwa [e] at h3
    · intro h
      obtain ⟨y, ⟨z, rfl⟩, h2, h3⟩ := h
      have hz := (O2_iff X O K z).mpr ⟨_, ⟨z, rfl⟩, rfl, fun v hv => by rw [← h2]; exact h3 v hv⟩
      obtain ⟨s, hs, hd⟩ := hz
      -- the part of the kernel's rows
      have key : ∀ s, Sp (Od.mk f p b).some2 s → ∃ v', Sp R v' ∧ evf t n v' * π ^ (M + 1) = π * lin n (eOf t π b) s := fun s hs => by
        induction hs with
        | zero => exact ⟨_, Sp.zero, by rw [evf_lin, lin_zero n _ fun _ _ => rfl, lin_zero n _ fun _ _ => rfl]; grind⟩
        | @add x y r hr hx ih =>
          obtain ⟨v', i1, i2⟩ := ih
          refine ⟨_, i1.add y (rowOf (Od.mk f p b).rows r) (by rw [← hR]; exact List.mem_append_left _ (List.mem_map_of_mem hr)), ?_⟩
          have := hval r hr
          unfold el at this
          rw [evf_lin, lin_add, lin_scale, ← evf_lin, ← evf_lin, lin_add, lin_scale]; grind
      obtain ⟨v1, j1, j2⟩ := key s hs
      -- the part of the order
      have key2 : ∀ (u : Nat → Int) m, m ≤ n → ∃ v', Sp R v' ∧ evf t n v' * π ^ (M + 1) = lin m (eOf t π b) u := fun u m => by
        induction m with
        | zero => exact fun _ => ⟨_, Sp.zero, by rw [evf_lin, lin_zero n _ fun _ _ => rfl]; show _ = (0 : A); grind⟩
        | succ m ih =>
          intro hm
          obtain ⟨v', i1, i2⟩ := ih (by omega)
          refine ⟨_, i1.add (u m) (((Od.mk f p b).rows.getD m []).map ((p : Int) * ·)) (by
            rw [← hR]
            refine List.mem_append_right _ (List.mem_map_of_mem ?_)
            rw [List.getD_eq_getElem?_getD, List.getElem?_eq_getElem (by rw [hn]; omega)]; exact List.getElem_mem _), ?_⟩
          have := hval2 m (by omega)
          have e : lin (m + 1) (eOf t π b) u = lin m (eOf t π b) u + (u m : A) * eOf t π b m := rfl
          rw [evf_lin, lin_add, lin_scale, ← evf_lin, ← evf_lin, e]; grind
      obtain ⟨v2, k1, k2⟩ := key2 (fun l => (z l - s l) / p) n (Nat.le_refl _)
      refine ⟨_, j1.sum k1, fun l hl => ?_⟩
      have e : evf t n v = evf t n fun l => v1 l + v2 l := by
        have e2 : lin n (eOf t π b) z = lin n (eOf t π b) s + (p : A) * lin n (eOf t π b) fun l => (z l - s l) / p := by
          rw [← castNI (A := A) p, ← lin_scale, ← lin_add]
          exact lin_congr (fun d hd' => by have := Int.mul_ediv_cancel' (hd d hd'); omega) fun _ _ => rfl
        have e3 : (evf t n v - evf t n fun l => v1 l + v2 l) * π ^ (M + 1) = 0 := by
          rw [evf_lin t n fun l => v1 l + v2 l, lin_add, ← evf_lin, ← evf_lin]
          have := X.pi
          grind
        have := X.can e3
        grind
      rw [X.inj' e l hl]; simp
  have htO : O2 t π n b p I t := hin _ O.tO
  have Tk := tri_ok X.P hw (exact_of X H2 htO hR1)
  have eg : (Od.mk f p b).greater = tri R n p ((M + 1 : Nat) : Int) := by
    unfold Od.greater
    have e1 : (Od.mk f p b).most + 1 = ((M + 1 : Nat) : Int) := by
      show top b + 1 = _
      omega
    rw [hn, e1]
    show tri (((Od.mk f p b).some2.map fun one => rowOf (Od.mk f p b).rows one) ++ (Od.mk f p b).rows.map (fun row => row.map ((p : Int) * ·))) n p _ = _
    rw [hR]
  rw [← eg] at Tk
  generalize (Od.mk f p b).greater = g at *
  -- the new basis
  have hO2 : ∀ x, O2 t π n b p I x ↔ OO t π n g x := fun x => by
    constructor
    · intro h
      obtain ⟨y, ⟨z, rfl⟩, h2, h3⟩ := h
      -- a vector for x
      have hx : ∃ v : Nat → Int, x = evf t n v * π ^ (M + 1) := by
        refine ⟨fun l => SI n fun d => z d * fRow p M b d l, ?_⟩
        rw [h2, lin_val X (M := M) (fun d hd => G.up (by omega) hd), Semiring.pow_succ]; grind
      obtain ⟨v, rfl⟩ := hx
      obtain ⟨z', hz'⟩ := Tk.gen v ((hR1 v).mpr ⟨_, ⟨z, rfl⟩, h2, h3⟩)
      refine ⟨z', ?_⟩
      rw [lin_val X Tk.gk]
      congr 1
      exact evf_congr hz'
    · intro ⟨z, hz⟩
      rw [hz]
      refine H2.lin (fun d hd => ?_) z
      rw [← evf_fRow X (g := []) (Tk.gk d hd) hd]
      exact (hR1 _).mp (Tk.inW d hd)
  have hOeq : OO t π n g = O2 t π n b p I := funext fun x => propext (hO2 x).symm
  have htop : (top g).toNat ≤ M + 1 := by
    obtain ⟨d, hd, e⟩ := top_mem (b := g) (by rw [Tk.len]; exact X.n0)
    have := (Tk.gk d (by rw [← Tk.len]; exact hd)).kM
    omega
  refine ⟨⟨⟨Tk.len, fun d hd => ?_⟩, by rw [hOeq]; exact H2, by rw [hOeq]; exact htO⟩, fun d hd => ?_, Tk.gk⟩
  · have q := Tk.gk d hd
    have := top_ge (b := g) (d := d) (by rw [Tk.len]; exact hd)
    exact ⟨q.len, q.one, q.k0, by have := q.k0; omega, q.rng⟩
  · -- the powers do not fall
    have h1 := hin _ (O.eO hd)
    rw [← hOeq] at h1
    obtain ⟨z, hz⟩ := h1
    rw [lin_val X Tk.gk, ← evf_fRow X (g := []) (G.up (M := M + 1) (by omega) hd) hd] at hz
    have h2 : evf t n (fRow p (M + 1) b d) = evf t n fun l => SI n fun c => z c * fRow p (M + 1) g c l := by
      have e3 : (evf t n (fRow p (M + 1) b d) - evf t n fun l => SI n fun c => z c * fRow p (M + 1) g c l) * π ^ (M + 1) = 0 := by grind
      have := X.can e3
      grind
    have h3 := X.inj' h2
    have hT := fRow_Tri X.P Tk.gk
    have hb0 := G.up (M := M + 1) (by omega) hd
    have hz0 : ∀ c, d < c → c < n → z c = 0 := by
      have : ∀ k, ∀ c, n - 1 - c = k → d < c → c < n → z c = 0 := by
        intro k
        induction k using Nat.strongRecOn with
        | ind k ih =>
          intro c hk hdc hc
          have h4 := h3 c hc
          have e : SI n (fun c' => z c' * fRow p (M + 1) g c' c) = z c * fRow p (M + 1) g c c := by
            rw [SI_one (k := c) hc fun i hi hic => ?_]
            by_cases hlt : i < c
            · rw [(hT i hi).2 c hlt]; simp
            · rw [ih (n - 1 - i) (by omega) i rfl (by omega) hi]; simp
          rw [e] at h4
          have h5 : fRow p (M + 1) b d c = 0 := by unfold fRow; rw [at_ge (by rw [hb0.len]; omega)]; simp
          rw [h5] at h4
          rcases Int.mul_eq_zero.mp h4.symm with h | h
          · exact h
          · exact absurd h (hT c hc).1
      exact fun c h1 h2 => this _ c rfl h1 h2
    have h4 := h3 d hd
    rw [SI_one (k := d) hd fun i hi hid => by
      by_cases hlt : i < d
      · rw [(hT i hi).2 d hlt]; simp
      · rw [hz0 i (by omega) hi]; simp] at h4
    unfold fRow at h4
    rw [hb0.one, (Tk.gk d hd).one] at h4
    -- p ^ (M+1-k') divides p ^ (M+1-k)
    have h5 : (p : Int) ^ (M + 1 - (kOf g d).toNat) ∣ (p : Int) ^ (M + 1 - (kOf b d).toNat) := ⟨z d, by grind⟩
    have h6 : M + 1 - (kOf g d).toNat ≤ M + 1 - (kOf b d).toNat := by
      rcases Nat.lt_or_ge (M + 1 - (kOf b d).toNat) (M + 1 - (kOf g d).toNat) with h | h
      · have := Int.le_of_dvd (X.P.ppos _) h5
        have := pow_lt X.P h
        omega
      · exact h
    have := hb0.kM
    have := (Tk.gk d hd).kM
    have := hb0.k0
    have := (Tk.gk d hd).k0
    omega
end
end Bd
set_option linter.all false
namespace Bd
open Lean.Grind
/-! ### a quadratic letter over a ring -/
structure Qd (R : Type) (b c : R) where
  u : R
  v : R
section
variable {R : Type} [CommRing R] {b c : R}
theorem Qd.ext' {x y : Qd R b c} (h1 : x.u = y.u) (h2 : x.v = y.v) : x = y := by cases x; cases y; simp_all
instance qAdd : Add (Qd R b c) := ⟨fun x y => ⟨x.u + y.u, x.v + y.v⟩⟩
instance qMul : Mul (Qd R b c) := ⟨fun x y => ⟨x.u * y.u - c * (x.v * y.v), x.u * y.v + x.v * y.u - b * (x.v * y.v)⟩⟩
instance qNeg : Neg (Qd R b c) := ⟨fun x => ⟨-x.u, -x.v⟩⟩
instance qSub : Sub (Qd R b c) := ⟨fun x y => ⟨x.u - y.u, x.v - y.v⟩⟩
def qNat (n : Nat) : Qd R b c := ⟨(n : R), 0⟩
def qInt (n : Int) : Qd R b c := ⟨(n : R), 0⟩
def qPow (x : Qd R b c) : Nat → Qd R b c
  | 0 => qNat 1
  | n + 1 => qPow x n * x
theorem qadd_u (x y : Qd R b c) : (x + y).u = x.u + y.u := rfl
theorem qadd_v (x y : Qd R b c) : (x + y).v = x.v + y.v := rfl
theorem qmul_u (x y : Qd R b c) : (x * y).u = x.u * y.u - c * (x.v * y.v) := rfl
theorem qmul_v (x y : Qd R b c) : (x * y).v = x.u * y.v + x.v * y.u - b * (x.v * y.v) := rfl
instance qRing : CommRing (Qd R b c) where
  natCast := ⟨qNat⟩
  ofNat := fun n => ⟨qNat n⟩
  nsmul := ⟨fun n x => qNat n * x⟩
  npow := ⟨fun x n => qPow x n⟩
  intCast := ⟨qInt⟩
  zsmul := ⟨fun n x => qInt n * x⟩
  add_zero := fun x => Qd.ext' (by show x.u + ((0 : Nat) : R) = x.u; grind) (by show x.v + 0 = x.v; grind)
  add_comm := fun x y => Qd.ext' (by show x.u + y.u = y.u + x.u; grind) (by show x.v + y.v = y.v + x.v; grind)
  add_assoc := fun x y z => Qd.ext' (by show x.u + y.u + z.u = x.u + (y.u + z.u); grind) (by show x.v + y.v + z.v = x.v + (y.v + z.v); grind)
  mul_assoc := fun x y z => Qd.ext' (by simp only [qmul_u, qmul_v]; grind) (by simp only [qmul_u, qmul_v]; grind)
  mul_comm := fun x y => Qd.ext' (by simp only [qmul_u]; grind) (by simp only [qmul_v]; grind)
  mul_one := fun x => Qd.ext' (by show x.u * ((1 : Nat) : R) - c * (x.v * 0) = x.u; grind) (by show x.u * 0 + x.v * ((1 : Nat) : R) - b * (x.v * 0) = x.v; grind)
  left_distrib := fun x y z => Qd.ext' (by simp only [qmul_u, qadd_u, qadd_v]; grind) (by simp only [qmul_v, qadd_u, qadd_v]; grind)
  one_mul := fun x => Qd.ext' (by show ((1 : Nat) : R) * x.u - c * (0 * x.v) = x.u; grind) (by show ((1 : Nat) : R) * x.v + 0 * x.u - b * (0 * x.v) = x.v; grind)
  right_distrib := fun x y z => Qd.ext' (by simp only [qmul_u, qadd_u, qadd_v]; grind) (by simp only [qmul_v, qadd_u, qadd_v]; grind)
  mul_zero := fun x => Qd.ext' (by show x.u * ((0 : Nat) : R) - c * (x.v * 0) = ((0 : Nat) : R); grind) (by show x.u * 0 + x.v * ((0 : Nat) : R) - b * (x.v * 0) = 0; grind)
  zero_mul := fun x => Qd.ext' (by show ((0 : Nat) : R) * x.u - c * (0 * x.v) = ((0 : Nat) : R); grind) (by show ((0 : Nat) : R) * x.v + 0 * x.u - b * (0 * x.v) = 0; grind)
  pow_zero := fun x => rfl
  pow_succ := fun x n => rfl
  ofNat_succ := fun n => Qd.ext' (by show ((n + 1 : Nat) : R) = ((n : Nat) : R) + ((1 : Nat) : R); grind) (by show (0 : R) = 0 + 0; grind)
  ofNat_eq_natCast := fun n => rfl
  nsmul_eq_natCast_mul := fun n x => rfl
  neg_add_cancel := fun x => Qd.ext' (by show -x.u + x.u = ((0 : Nat) : R); grind) (by show -x.v + x.v = 0; grind)
  sub_eq_add_neg := fun x y => Qd.ext' (by show x.u - y.u = x.u + -y.u; grind) (by show x.v - y.v = x.v + -y.v; grind)
  neg_zsmul := fun n x => Qd.ext' (by show ((-n : Int) : R) * x.u - c * (0 * x.v) = -((n : R) * x.u - c * (0 * x.v)); grind) (by show ((-n : Int) : R) * x.v + 0 * x.u - b * (0 * x.v) = -((n : R) * x.v + 0 * x.u - b * (0 * x.v)); grind)
  zsmul_natCast_eq_nsmul := fun n x => Qd.ext' (by show ((n : Int) : R) * x.u - c * (0 * x.v) = (n : R) * x.u - c * (0 * x.v); rw [castNI]) (by show ((n : Int) : R) * x.v + 0 * x.u - b * (0 * x.v) = (n : R) * x.v + 0 * x.u - b * (0 * x.v); rw [castNI])
  intCast_ofNat := fun n => Qd.ext' (by show (((n : Nat) : Int) : R) = ((n : Nat) : R); rw [castNI]) rfl
  intCast_neg := fun n => Qd.ext' (by show ((-n : Int) : R) = -(n : R); grind) (by show (0 : R) = -0; grind)
end
/-! ### functions into a ring -/
structure Fn (R : Type) where
  f : Nat → R
section
variable {R : Type} [CommRing R]
theorem Fn.ext' {x y : Fn R} (h : ∀ i, x.f i = y.f i) : x = y := by cases x; cases y; congr; exact funext h
instance fAdd : Add (Fn R) := ⟨fun x y => ⟨fun i => x.f i + y.f i⟩⟩
instance fMul : Mul (Fn R) := ⟨fun x y => ⟨fun i => x.f i * y.f i⟩⟩
instance fNeg : Neg (Fn R) := ⟨fun x => ⟨fun i => -x.f i⟩⟩
instance fSub : Sub (Fn R) := ⟨fun x y => ⟨fun i => x.f i - y.f i⟩⟩
def fNat (n : Nat) : Fn R := ⟨fun _ => (n : R)⟩
def fInt (n : Int) : Fn R := ⟨fun _ => (n : R)⟩
def fPow (x : Fn R) : Nat → Fn R
  | 0 => fNat 1
  | n + 1 => fPow x n * x
instance fRing : CommRing (Fn R) where
  natCast := ⟨fNat⟩
  ofNat := fun n => ⟨fNat n⟩
  nsmul := ⟨fun n x => fNat n * x⟩
  npow := ⟨fun x n => fPow x n⟩
  intCast := ⟨fInt⟩
  zsmul := ⟨fun n x => fInt n * x⟩
  add_zero := fun x => Fn.ext' fun i => by show x.f i + ((0 : Nat) : R) = x.f i; grind
  add_comm := fun x y => Fn.ext' fun i => by show x.f i + y.f i = y.f i + x.f i; grind
  add_assoc := fun x y z => Fn.ext' fun i => by show x.f i + y.f i + z.f i = x.f i + (y.f i + z.f i); grind
  mul_assoc := fun x y z => Fn.ext' fun i => by show x.f i * y.f i * z.f i = x.f i * (y.f i * z.f i); grind
  mul_comm := fun x y => Fn.ext' fun i => by show x.f i * y.f i = y.f i * x.f i; grind
  mul_one := fun x => Fn.ext' fun i => by show x.f i * ((1 : Nat) : R) = x.f i; grind
  left_distrib := fun x y z => Fn.ext' fun i => by show x.f i * (y.f i + z.f i) = x.f i * y.f i + x.f i * z.f i; grind
  one_mul := fun x => Fn.ext' fun i => by show ((1 : Nat) : R) * x.f i = x.f i; grind
  right_distrib := fun x y z => Fn.ext' fun i => by show (x.f i + y.f i) * z.f i = x.f i * z.f i + y.f i * z.f i; grind
  mul_zero := fun x => Fn.ext' fun i => by show x.f i * ((0 : Nat) : R) = ((0 : Nat) : R); grind
  zero_mul := fun x => Fn.ext' fun i => by show ((0 : Nat) : R) * x.f i = ((0 : Nat) : R); grind
  pow_zero := fun x => rfl
  pow_succ := fun x n => rfl
  ofNat_succ := fun n => Fn.ext' fun i => by show ((n + 1 : Nat) : R) = ((n : Nat) : R) + ((1 : Nat) : R); grind
  ofNat_eq_natCast := fun n => rfl
  nsmul_eq_natCast_mul := fun n x => rfl
  neg_add_cancel := fun x => Fn.ext' fun i => by show -x.f i + x.f i = ((0 : Nat) : R); grind
  sub_eq_add_neg := fun x y => Fn.ext' fun i => by show x.f i - y.f i = x.f i + -y.f i; grind
  neg_zsmul := fun n x => Fn.ext' fun i => by show ((-n : Int) : R) * x.f i = -((n : R) * x.f i); grind
  zsmul_natCast_eq_nsmul := fun n x => Fn.ext' fun i => by show ((n : Int) : R) * x.f i = (n : R) * x.f i; rw [castNI]
  intCast_ofNat := fun n => Fn.ext' fun i => by show (((n : Nat) : Int) : R) = ((n : Nat) : R); rw [castNI]
  intCast_neg := fun n => Fn.ext' fun i => by show ((-n : Int) : R) = -(n : R); grind
end
/-! ### homs -/
structure Hom {A B : Type} [CommRing A] [CommRing B] (φ : A → B) : Prop where
  add : ∀ x y, φ (x + y) = φ x + φ y
  mul : ∀ x y, φ (x * y) = φ x * φ y
  one : φ 1 = 1
  zero : φ 0 = 0
  int : ∀ k : Int, φ (k : A) = (k : B)
section
variable {A B : Type} [CommRing A] [CommRing B] {φ : A → B}
theorem Hom.pow (h : Hom φ) (x : A) (k : Nat) : φ (x ^ k) = φ x ^ k := by
  induction k with
  | zero => rw [Semiring.pow_zero, Semiring.pow_zero, h.one]
  | succ k ih => rw [Semiring.pow_succ, Semiring.pow_succ, h.mul, ih]
theorem Hom.S (h : Hom φ) (n : Nat) (f : Nat → A) : φ (S n f) = S n fun i => φ (f i) := by
  induction n with
  | zero => exact h.zero
  | succ n ih => show φ (Bd.S n f + f n) = _; rw [h.add, ih]; rfl
theorem Hom.evf (h : Hom φ) (t : A) (n : Nat) (c : Nat → Int) : φ (evf t n c) = evf (φ t) n c := by
  unfold Bd.evf
  rw [h.S]; exact S_congr fun i _ => by rw [h.mul, h.int, h.pow]
end
theorem hom_at {R : Type} [CommRing R] (i : Nat) : Hom (fun x : Fn R => x.f i) := ⟨fun _ _ => rfl, fun _ _ => rfl, by show ((1 : Nat) : R) = 1; grind, by show ((0 : Nat) : R) = 0; grind, fun _ => rfl⟩
def inQ {b c : Int} (x : Int) : Qd Rat b c := ⟨x, 0⟩
def qInQ {b c : Int} (x : Qd Int b c) : Qd Rat b c := ⟨x.u, x.v⟩
theorem hom_inQ {b c : Int} : Hom (fun x : Int => (inQ x : Qd Rat b c)) where
  add := fun x y => Qd.ext' (by show ((x + y : Int) : Rat) = x + y; exact Rat.intCast_add x y) (by show (0 : Rat) = 0 + 0; grind)
  mul := fun x y => Qd.ext' (by show ((x * y : Int) : Rat) = x * y - c * (0 * 0); rw [Rat.intCast_mul]; grind) (by show (0 : Rat) = x * 0 + 0 * y - b * (0 * 0); grind)
  one := Qd.ext' (by rfl) rfl
  zero := Qd.ext' (by rfl) rfl
  int := fun k => Qd.ext' (by rfl) rfl
theorem hom_qInQ {b c : Int} : Hom (fun x : Qd Int b c => qInQ x) where
  add := fun x y => Qd.ext' (Rat.intCast_add _ _) (Rat.intCast_add _ _)
  mul := fun x y => Qd.ext' (by show ((x.u * y.u - c * (x.v * y.v) : Int) : Rat) = x.u * y.u - c * (x.v * y.v); simp [Rat.intCast_mul, Rat.intCast_sub]) (by show ((x.u * y.v + x.v * y.u - b * (x.v * y.v) : Int) : Rat) = x.u * y.v + x.v * y.u - b * (x.v * y.v); simp [Rat.intCast_mul, Rat.intCast_sub, Rat.intCast_add])
  one := Qd.ext' (by rfl) (by rfl)
  zero := Qd.ext' (by rfl) (by rfl)
  int := fun k => Qd.ext' (by rfl) (by rfl)
theorem inQ_inj {b c : Int} {x y : Int} (h : (inQ x : Qd Rat b c) = inQ y) : x = y := by
  have : (x : Rat) = y := congrArg Qd.u h
  exact Rat.intCast_inj.mp this
theorem qInQ_inj {b c : Int} {x y : Qd Int b c} (h : qInQ x = qInQ y) : x = y :=
  Qd.ext' (Rat.intCast_inj.mp (congrArg Qd.u h)) (Rat.intCast_inj.mp (congrArg Qd.v h))
end Bd
set_option linter.all false
namespace Bd
open Lean.Grind
/-! ### values at whole numbers; parting off a zero -/
def val (x : Int) : L → Int
  | [] => 0
  | a :: s => a + x * val x s
theorem ev_cons {A : Type} [CommRing A] (t : A) (a : Int) (s : L) : ev t (a :: s) = (a : A) + t * ev t s := by
  unfold ev evf
  rw [List.length_cons, S_shift, ← S_mul]
  simp only [at_cons_zero, at_cons_succ]
  rw [Semiring.pow_zero]
  have : S s.length (fun i => (at_ s i : A) * t ^ (i + 1)) = S s.length (fun i => t * ((at_ s i : A) * t ^ i)) := S_congr fun i _ => by rw [Semiring.pow_succ]; grind
  rw [this]; grind
theorem ev_val (x : Int) (s : L) : ev x s = val x s := by
  induction s with
  | nil => rfl
  | cons a s ih => rw [ev_cons, ih]; rfl
def syn (r : Int) : L → L
  | [] => []
  | _ :: s => val r s :: syn r s
theorem val_syn (x r : Int) (s : L) : val x s = val r s + (x - r) * val x (syn r s) := by
  induction s with
  | nil => simp [val, syn]
  | cons a s ih => simp only [val, syn]; rw [ih]; grind
theorem at_syn (r : Int) (s : L) (k : Nat) : at_ s k = (if k = 0 then val r s else at_ (syn r s) (k - 1)) - r * at_ (syn r s) k := by
  induction s generalizing k with
  | nil => simp [syn, at_, val]
  | cons a s ih =>
    cases k with
    | zero => simp only [syn, at_cons_zero, val, if_pos]; omega
    | succ k =>
      simp only [syn, at_cons_succ, if_neg (Nat.succ_ne_zero k), Nat.add_sub_cancel]
      rw [ih k]
      cases k with
      | zero => simp [at_cons_zero]
      | succ k => simp [at_cons_succ]
theorem val_zero {r : Int} {s : L} (h : ∀ k, at_ s k = 0) : val r s = 0 := by
  induction s with
  | nil => rfl
  | cons a s ih =>
    have h0 := h 0
    rw [at_cons_zero] at h0
    rw [val, h0, ih fun k => by have := h (k + 1); rwa [at_cons_succ] at this]; simp
theorem syn_top {r : Int} {s : L} {K : Nat} (h : ∀ k, K + 1 ≤ k → at_ s k = 0) : ∀ k, K ≤ k → at_ (syn r s) k = 0 := by
  induction s generalizing K with
  | nil => intro k _; simp [syn, at_]
  | cons a s ih =>
    intro k hk
    cases k with
    | zero =>
      have : K = 0 := by omega
      subst this
      simp only [syn, at_cons_zero]
      exact val_zero fun k => by have := h (k + 1) (by omega); rwa [at_cons_succ] at this
    | succ k =>
      simp only [syn, at_cons_succ]
      by_cases hK : K = 0
      · subst hK
        exact ih (K := 0) (fun j hj => by have := h (j + 1) (by omega); rwa [at_cons_succ] at this) k (by omega)
      · exact ih (K := K - 1) (fun j hj => by have := h (j + 1) (by omega); rwa [at_cons_succ] at this) k (by omega)
def apart (r : Int) : List Int → Int
  | [] => 1
  | a :: rs => (a - r) * apart r rs
def vdm : List Int → Int
  | [] => 1
  | r :: rs => apart r rs * vdm rs
theorem apart_dvd {r x : Int} {rs : List Int} (h : x ∈ rs) : (x - r) ∣ apart r rs := by
  induction rs with
  | nil => cases h
  | cons a rs ih =>
    rcases List.mem_cons.mp h with rfl | h
    · exact Int.dvd_mul_right _ _
    · exact Int.dvd_mul_of_dvd_right (ih h)
theorem val_map (c x : Int) (s : L) : val x (s.map (c * ·)) = c * val x s := by
  induction s with
  | nil => simp [val]
  | cons a s ih => simp only [List.map_cons, val]; rw [ih]; grind
theorem newton (N : Int) : ∀ (rs : List Int) (s : L), (∀ k, rs.length ≤ k → at_ s k = 0) → (∀ r ∈ rs, N ∣ val r s) → ∀ k, N ∣ vdm rs * at_ s k
  | [], s, h0, _, k => by rw [h0 k (Nat.zero_le _)]; simp
  | r :: rs, s, h0, hv, k => by
    have hr := hv r List.mem_cons_self
    have hq := syn_top (r := r) h0
    have key := newton N rs ((syn r s).map (apart r rs * ·)) (fun k hk => by rw [at_map _ _ (by simp), hq k hk]; simp) (fun x hx => by
      rw [val_map]
      have h1 := hv x (List.mem_cons_of_mem _ hx)
      rw [val_syn x r s] at h1
      have h2 := Int.dvd_sub h1 hr
      have e : val r s + (x - r) * val x (syn r s) - val r s = (x - r) * val x (syn r s) := by omega
      rw [e] at h2
      exact Int.dvd_trans h2 (Int.mul_dvd_mul (apart_dvd hx) (Int.dvd_refl _)))
    have hk : ∀ k, N ∣ vdm (r :: rs) * at_ (syn r s) k := fun k => by
      have := key k
      rw [at_map _ _ (by simp)] at this
      have e : vdm (r :: rs) * at_ (syn r s) k = vdm rs * (apart r rs * at_ (syn r s) k) := by simp only [vdm]; grind
      rw [e]; exact this
    rw [at_syn r s k]
    have e : vdm (r :: rs) * ((if k = 0 then val r s else at_ (syn r s) (k - 1)) - r * at_ (syn r s) k) = vdm (r :: rs) * (if k = 0 then val r s else at_ (syn r s) (k - 1)) - r * (vdm (r :: rs) * at_ (syn r s) k) := by grind
    rw [e]
    refine Int.dvd_sub ?_ (Int.dvd_mul_of_dvd_right (hk k))
    split
    · exact Int.dvd_mul_of_dvd_right hr
    · exact hk _
/-! ### parting off a quadratic -/
/-- quotient, and the rest u + v x, by x x + b x + c -/
def qd (b c : Int) : L → L × Int × Int
  | [] => ([], 0, 0)
  | a :: s => let r := qd b c s; (r.2.2 :: r.1, a - c * r.2.2, r.2.1 - b * r.2.2)
def qval (b c x : Int) : Int := x * x + b * x + c
theorem val_qd (b c x : Int) (s : L) : val x s = qval b c x * val x (qd b c s).1 + ((qd b c s).2.1 + (qd b c s).2.2 * x) := by
  induction s with
  | nil => simp [val, qd]
  | cons a s ih => simp only [val, qd]; rw [ih]; unfold qval; grind
theorem at_qd (b c : Int) (s : L) (k : Nat) : at_ s k = (if k = 0 then (qd b c s).2.1 else if k = 1 then (qd b c s).2.2 else at_ (qd b c s).1 (k - 2)) + (if k = 0 then 0 else b * at_ (qd b c s).1 (k - 1)) + c * at_ (qd b c s).1 k := by
  induction s generalizing k with
  | nil => simp [qd, at_]
  | cons a s ih =>
    cases k with
    | zero => simp only [qd, at_cons_zero, if_pos]; omega
    | succ k =>
      simp only [qd, at_cons_succ, if_neg (Nat.succ_ne_zero k), Nat.add_sub_cancel]
      rw [ih k]
      cases k with
      | zero => simp [at_cons_zero]
      | succ k =>
        cases k with
        | zero => simp [at_cons_zero, at_cons_succ]
        | succ k => simp [at_cons_succ]
theorem qd_zero (b c : Int) {s : L} (h : ∀ k, at_ s k = 0) : (qd b c s).2.1 = 0 ∧ (qd b c s).2.2 = 0 ∧ ∀ k, at_ (qd b c s).1 k = 0 := by
  induction s with
  | nil => exact ⟨rfl, rfl, fun k => by simp [qd, at_]⟩
  | cons a s ih =>
    obtain ⟨i1, i2, i3⟩ := ih fun k => by have := h (k + 1); rwa [at_cons_succ] at this
    have h0 := h 0
    rw [at_cons_zero] at h0
    simp only [qd]
    refine ⟨by rw [h0, i2]; simp, by rw [i1, i2]; simp, fun k => ?_⟩
    cases k with
    | zero => rw [at_cons_zero]; exact i2
    | succ k => rw [at_cons_succ]; exact i3 k
theorem qd_top {b c : Int} {s : L} {K : Nat} (h : ∀ k, K + 2 ≤ k → at_ s k = 0) : ∀ k, K ≤ k → at_ (qd b c s).1 k = 0 := by
  have one : ∀ (s : L), (∀ k, 1 ≤ k → at_ s k = 0) → (qd b c s).2.2 = 0 ∧ ∀ k, at_ (qd b c s).1 k = 0 := fun s h => by
    cases s with
    | nil => exact ⟨rfl, fun k => by simp [qd, at_]⟩
    | cons a s =>
      obtain ⟨i1, i2, i3⟩ := qd_zero b c (s := s) fun k => by have := h (k + 1) (by omega); rwa [at_cons_succ] at this
      simp only [qd]
      refine ⟨by rw [i1, i2]; simp, fun k => ?_⟩
      cases k with
      | zero => rw [at_cons_zero]; exact i2
      | succ k => rw [at_cons_succ]; exact i3 k
  induction s generalizing K with
  | nil => intro k _; simp [qd, at_]
  | cons a s ih =>
    intro k hk
    simp only [qd]
    by_cases hK : K = 0
    · subst hK
      obtain ⟨o1, o2⟩ := one s fun k hk => by have := h (k + 1) (by omega); rwa [at_cons_succ] at this
      cases k with
      | zero => rw [at_cons_zero]; exact o1
      | succ k => rw [at_cons_succ]; exact o2 k
    · cases k with
      | zero => omega
      | succ k =>
        rw [at_cons_succ]
        exact ih (K := K - 1) (fun j hj => by have := h (j + 1) (by omega); rwa [at_cons_succ] at this) k (by omega)
def qprod (b c : Int) : List Int → Int
  | [] => 1
  | r :: rs => qval b c r * qprod b c rs
theorem qprod_dvd {b c x : Int} {rs : List Int} (h : x ∈ rs) : qval b c x ∣ qprod b c rs := by
  induction rs with
  | nil => cases h
  | cons a rs ih =>
    rcases List.mem_cons.mp h with rfl | h
    · exact Int.dvd_mul_right _ _
    · exact Int.dvd_mul_of_dvd_right (ih h)
theorem newtonQ (N b c : Int) (rs : List Int) (s : L) (h0 : ∀ k, rs.length + 2 ≤ k → at_ s k = 0) (hv : ∀ r ∈ rs, N ∣ val r s) (hu : N ∣ (qd b c s).2.1) (hw : N ∣ (qd b c s).2.2) (k : Nat) : N ∣ vdm rs * qprod b c rs * at_ s k := by
  have hq := qd_top (b := b) (c := c) h0
  have key := newton N rs ((qd b c s).1.map (qprod b c rs * ·)) (fun k hk => by rw [at_map _ _ (by simp), hq k hk]; simp) (fun x hx => by
    rw [val_map]
    have h1 := hv x hx
    rw [val_qd b c x s] at h1
    have h2 : N ∣ qval b c x * val x (qd b c s).1 := by
      have h3 : N ∣ (qd b c s).2.1 + (qd b c s).2.2 * x := Int.dvd_add hu (Int.dvd_mul_of_dvd_left hw)
      have := Int.dvd_sub h1 h3
      have e : qval b c x * val x (qd b c s).1 + ((qd b c s).2.1 + (qd b c s).2.2 * x) - ((qd b c s).2.1 + (qd b c s).2.2 * x) = qval b c x * val x (qd b c s).1 := by omega
      rwa [e] at this
    exact Int.dvd_trans h2 (Int.mul_dvd_mul (qprod_dvd hx) (Int.dvd_refl _)))
  have hk : ∀ k, N ∣ vdm rs * qprod b c rs * at_ (qd b c s).1 k := fun k => by
    have := key k
    rw [at_map _ _ (by simp)] at this
    have e : vdm rs * qprod b c rs * at_ (qd b c s).1 k = vdm rs * (qprod b c rs * at_ (qd b c s).1 k) := by grind
    rw [e]; exact this
  rw [at_qd b c s k]
  generalize vdm rs * qprod b c rs = D at *
  have e : ∀ x y z : Int, D * (x + y + z) = D * x + D * y + D * z := fun x y z => by grind
  rw [e]
  refine Int.dvd_add (Int.dvd_add ?_ ?_) ?_
  · split
    · exact Int.dvd_mul_of_dvd_right hu
    · split
      · exact Int.dvd_mul_of_dvd_right hw
      · exact hk _
  · split
    · simp
    · have e2 : D * (b * at_ (qd b c s).1 (k - 1)) = b * (D * at_ (qd b c s).1 (k - 1)) := by grind
      rw [e2]; exact Int.dvd_mul_of_dvd_right (hk _)
  · have e2 : D * (c * at_ (qd b c s).1 k) = c * (D * at_ (qd b c s).1 k) := by grind
    rw [e2]; exact Int.dvd_mul_of_dvd_right (hk _)
/-! ### powers with bounded bottoms -/
theorem powdiv {p : Nat} (P : Pr p) (M : Nat) : ∀ (k : Nat) (x : Int), (∀ j, (p : Int) ^ (k * j) ∣ x ^ j * (p : Int) ^ M) → (p : Int) ^ k ∣ x
  | 0, x, _ => by simp
  | k + 1, x, h => by
    have h1 := powdiv P M k x fun j => Int.dvd_trans (pow_dvd (Nat.mul_le_mul_right j (by omega))) (h j)
    obtain ⟨y, hy⟩ := h1
    have h2 := h (M + 1)
    have e : x ^ (M + 1) * (p : Int) ^ M = (p : Int) ^ (k * (M + 1)) * (y ^ (M + 1) * (p : Int) ^ M) := by
      rw [hy, Int.mul_pow, Int.pow_mul]; grind
    have e2 : (p : Int) ^ ((k + 1) * (M + 1)) = (p : Int) ^ (k * (M + 1)) * ((p : Int) ^ M * p) := by
      rw [Nat.succ_mul, Int.pow_add, Int.pow_succ _ M]
    rw [e, e2] at h2
    have h3 := Int.dvd_of_mul_dvd_mul_left (by have := P.ppos (k * (M + 1)); omega) h2
    have e3 : y ^ (M + 1) * (p : Int) ^ M = (p : Int) ^ M * y ^ (M + 1) := Int.mul_comm _ _
    rw [e3] at h3
    have h4 := Int.dvd_of_mul_dvd_mul_left (by have := P.ppos M; omega) h3
    have h5 := P.pow h4
    rw [hy, Int.pow_succ]
    exact Int.mul_dvd_mul (Int.dvd_refl _) h5
theorem sqdiv {p : Nat} (P : Pr p) : ∀ (k : Nat) (x : Int), (p : Int) ^ (2 * k) ∣ x * x → (p : Int) ^ k ∣ x
  | 0, x, _ => by simp
  | k + 1, x, h => by
    have h0 : (p : Int) ^ (2 * k) ∣ x * x := Int.dvd_trans (pow_dvd (by omega)) h
    obtain ⟨y, hy⟩ := sqdiv P k x h0
    have e : x * x = (p : Int) ^ (2 * k) * (y * y) := by
      have : 2 * k = k + k := by omega
      rw [this, Int.pow_add, hy]; grind
    have e2 : (p : Int) ^ (2 * (k + 1)) = (p : Int) ^ (2 * k) * ((p : Int) * p) := by
      have : 2 * (k + 1) = 2 * k + 1 + 1 := by omega
      rw [this, Int.pow_succ, Int.pow_succ]; grind
    rw [e, e2] at h
    have h3 := Int.dvd_of_mul_dvd_mul_left (by have := P.ppos (2 * k); omega) h
    have h4 : (p : Int) ∣ y := by
      rcases P.mul (Int.dvd_trans (Int.dvd_mul_right _ _) h3) with h | h <;> exact h
    rw [hy, Int.pow_succ]
    exact Int.mul_dvd_mul (Int.dvd_refl _) h4
end Bd
set_option linter.all false
namespace Bd
open Lean.Grind
/-! ### the beginning: powers of the letter -/
section
variable {A : Type} [CommRing A] {t π : A} {p n : Nat} {f : L}
theorem basis0_g (n i : Nat) (h : i < n) : gOf (basis0 n) i = zeros i ++ [1] := by unfold gOf basis0; rw [getD_range, if_pos h]
theorem basis0_k (n i : Nat) : kOf (basis0 n) i = 0 := by unfold kOf basis0; rw [getD_range]; split <;> rfl
theorem at_mono (i j : Nat) : at_ (zeros i ++ [1]) j = if j = i then 1 else 0 := by
  rw [at_append, len_zeros, at_zeros]
  by_cases h1 : j < i
  · rw [if_pos h1, if_neg (by omega)]
  · rw [if_neg h1]
    by_cases h2 : j = i
    · subst h2; simp [at_]
    · rw [if_neg h2, at_ge (by simp; omega)]
theorem basis0_e (t π : A) (n i : Nat) (h : i < n) : eOf t π (basis0 n) i = t ^ i := by
  unfold eOf
  rw [basis0_k, basis0_g n i h, ev_le (n := i + 1) (by simp [len_zeros])]
  unfold evf
  rw [S_one (n := i + 1) (k := i) (f := fun j => (at_ (zeros i ++ [1]) j : A) * t ^ j) (by omega) fun j hj hji => by rw [at_mono, if_neg hji]; grind]
  rw [at_mono, if_pos rfl]
  have : (0 : Int).toNat = 0 := rfl
  rw [this, Semiring.pow_zero]; grind
theorem basis0_ok (X : Ctx t π p n f) : OrdOk t π p n (basis0 n) := by
  have hlen : (basis0 n).length = n := by simp [basis0]
  have htop : top (basis0 n) = 0 := by
    obtain ⟨d, _, e⟩ := top_mem (b := basis0 n) (by rw [hlen]; exact X.n0)
    rw [e, basis0_k]
  have hO : ∀ x, OO t π n (basis0 n) x ↔ ∃ c, x = evf t n c := fun x => by
    constructor
    · intro ⟨z, hz⟩; exact ⟨z, by rw [hz, evf_lin]; exact lin_congr (fun _ _ => rfl) fun i hi => basis0_e t π n i hi⟩
    · intro ⟨z, hz⟩; exact ⟨z, by rw [hz, evf_lin]; exact (lin_congr (fun _ _ => rfl) fun i hi => basis0_e t π n i hi).symm⟩
  -- any polynomial's value is one of lesser degree
  have hev : ∀ l : L, OO t π n (basis0 n) (ev t l) := fun l => (hO _).mpr ⟨at_ (dv l f).2, by
    have e := ev_dv t l f (by rw [X.fl]; omega) (by rw [X.fl]; exact X.fm)
    rw [X.f0] at e
    have hl := dv_len l f
    rw [ev_le (l := (dv l f).2) (n := n) (by rw [X.fl] at hl; omega)] at e
    rw [e]; grind⟩
  have htab : ∀ c : Nat → Int, evf t n c = ev t (tab n c) := fun c => by
    rw [ev_le (l := tab n c) (n := n) (by rw [len_tab]; omega)]
    exact evf_congr fun l hl => by rw [at_tab, if_pos hl]
  refine ⟨⟨hlen, fun d hd => ?_⟩, ⟨?_, fun x y hx hy => ?_, fun x y hx hy => ?_, fun x hx => ?_⟩, ?_⟩
  · rw [htop, basis0_k, basis0_g n d hd]
    exact ⟨by simp [len_zeros], by rw [at_mono, if_pos rfl], by omega, by omega, fun j hj => by rw [at_mono, if_neg (by omega)]; simp⟩
  · have := hev [1]
    have e : ev t [1] = (1 : A) := by rw [ev_cons, ev_nil]; grind
    rwa [e] at this
  · obtain ⟨c, rfl⟩ := hx
    obtain ⟨c', rfl⟩ := hy
    exact ⟨_, (lin_add n _ c c').symm⟩
  · obtain ⟨c, rfl⟩ := (hO _).mp hx
    obtain ⟨c', rfl⟩ := (hO _).mp hy
    rw [htab, htab, ← ev_mul]; exact hev _
  · obtain ⟨c, rfl⟩ := hx
    refine ⟨fun d => (-1) * c d, ?_⟩
    rw [lin_scale]; grind
  · have := hev [0, 1]
    have e : ev t [0, 1] = t := by rw [ev_cons, ev_cons, ev_nil]; grind
    rwa [e] at this
/-- what is wanted of a polynomial and a prime -/
theorem OO_val (X : Ctx t π p n f) {b : B} (O : OrdOk t π p n b) {x : A} (h : OO t π n b x) : ∃ w, x = evf t n w * π ^ (top b).toNat := by
  obtain ⟨z, rfl⟩ := h
  exact ⟨_, lin_val X O.G.gk z⟩
/-- powers of an element of the order, cleared -/
theorem cleared_pow (X : Ctx t π p n f) {b : B} (O : OrdOk t π p n b) {y : A} {k : Nat} (h : OO t π n b (y * π ^ k)) (j : Nat) :
    ∃ w, y ^ j * (((p : Int) ^ (top b).toNat : Int) : A) = evf t n w * (((p : Int) ^ (k * j) : Int) : A) := by
  obtain ⟨w, hw⟩ := OO_val X O (O.sub.pow h j)
  refine ⟨w, ?_⟩
  rw [mul_pow, ← pow_mulr] at hw
  have h1 := X.ppi (top b).toNat
  have h2 := X.ppi (k * j)
  generalize (((p : Int) ^ (top b).toNat : Int) : A) = P1 at *
  generalize (((p : Int) ^ (k * j) : Int) : A) = P2 at *
  generalize π ^ (top b).toNat = q1 at *
  generalize π ^ (k * j) = q2 at *
  have e1 : y ^ j * P1 = (y ^ j * q2) * P1 * P2 := by grind
  rw [e1, hw]; grind
end
structure Pack (f : L) (n p Bd : Nat) : Prop where
  ex : ∃ (A : Type) (_ : CommRing A) (t π : A), Ctx t π p n f ∧ ∀ b, OrdOk t π p n b → ∀ d, d < n → kOf b d ≤ Bd
/-! ### the ring of values -/
section
variable {b c : Int}
def om : Qd Int b c := ⟨0, 1⟩
theorem ev_om (s : L) : ev (om : Qd Int b c) s = ⟨(qd b c s).2.1, (qd b c s).2.2⟩ := by
  induction s with
  | nil => rfl
  | cons a s ih =>
    rw [ev_cons, ih]
    exact Qd.ext' (by show a + (0 * _ - c * (1 * (qd b c s).2.2)) = a - c * (qd b c s).2.2; grind) (by show 0 + (0 * _ + 1 * (qd b c s).2.1 - b * (1 * (qd b c s).2.2)) = (qd b c s).2.1 - b * (qd b c s).2.2; grind)
theorem ev_hom {A B : Type} [CommRing A] [CommRing B] {φ : A → B} (h : Hom φ) (t : A) (s : L) : φ (ev t s) = ev (φ t) s := by unfold ev; exact h.evf t _ _
def piQ (p : Nat) : Fn (Qd Rat b c) := ⟨fun _ => ⟨(1 : Rat) / (p : Rat), 0⟩⟩
theorem piQ_ok {p : Nat} (hp : 0 < p) : ((p : Nat) : Fn (Qd Rat b c)) * piQ p = 1 := Fn.ext' fun i => Qd.ext' (by
    show (p : Rat) * ((1 : Rat) / p) - (c : Rat) * (0 * 0) = ((1 : Nat) : Rat)
    have : (p : Rat) ≠ 0 := fun h => by
      have : p = 0 := by exact_mod_cast h
      omega
    rw [Rat.div_def]
    have e := Rat.mul_inv_cancel (p : Rat) this
    grind) (by
    show (p : Rat) * 0 + 0 * ((1 : Rat) / p) - (b : Rat) * (0 * 0) = 0
    grind)
/-- the values at a whole zero -/
theorem at_int {t : Fn (Qd Rat b c)} {i : Nat} {r : Int} (h : t.f i = inQ r) (s : L) : (ev t s).f i = inQ (val r s) := by
  rw [ev_hom (hom_at i), h, ← ev_val, ← ev_hom hom_inQ]
theorem at_om {t : Fn (Qd Rat b c)} {i : Nat} (h : t.f i = qInQ om) (s : L) : (ev t s).f i = qInQ ⟨(qd b c s).2.1, (qd b c s).2.2⟩ := by
  rw [ev_hom (hom_at i), h, ← ev_om, ← ev_hom hom_qInQ]
theorem ev_tab {A : Type} [CommRing A] (t : A) (n : Nat) (c : Nat → Int) : evf t n c = ev t (tab n c) := by
  rw [ev_le (l := tab n c) (n := n) (by rw [len_tab]; omega)]
  exact evf_congr fun l hl => by rw [at_tab, if_pos hl]
theorem zero_at {R : Type} [CommRing R] (i : Nat) : (0 : Fn R).f i = 0 := (hom_at i).zero
theorem inQ_zero {x : Int} (h : (inQ x : Qd Rat b c) = 0) : x = 0 := by
  rw [← hom_inQ.zero] at h; exact inQ_inj h
theorem qInQ_zero {x : Qd Int b c} (h : qInQ x = 0) : x.u = 0 ∧ x.v = 0 := by
  rw [← hom_qInQ.zero] at h
  have := qInQ_inj h
  rw [this]; exact ⟨rfl, rfl⟩
/-- a whole zero: its value is divided -/
theorem int_div {t π : Fn (Qd Rat b c)} {p n : Nat} {f : L} (X : Ctx t π p n f) {g : B} (O : OrdOk t π p n g) {s : L} {k : Nat} (h : OO t π n g (ev t s * π ^ k)) {i : Nat} {r : Int} (hi : t.f i = inQ r) : (p : Int) ^ k ∣ val r s := by
  refine powdiv X.P (top g).toNat k _ fun j => ?_
  obtain ⟨w, hw⟩ := cleared_pow X O h j
  have h1 := congrArg (fun x : Fn (Qd Rat b c) => x.f i) hw
  have H := hom_at (R := Qd Rat b c) i
  have e1 : (ev t s ^ j * (((p : Int) ^ (top g).toNat : Int) : Fn (Qd Rat b c))).f i = inQ (val r s ^ j * (p : Int) ^ (top g).toNat) := by
    have a := H.mul (ev t s ^ j) (((p : Int) ^ (top g).toNat : Int) : Fn (Qd Rat b c))
    have a2 := H.pow (ev t s) j
    have a3 := H.int ((p : Int) ^ (top g).toNat)
    try dsimp only at a a2 a3
    have a4 := hom_inQ (b := b) (c := c) |>.mul (val r s ^ j) ((p : Int) ^ (top g).toNat)
    have a5 := hom_inQ (b := b) (c := c) |>.pow (val r s) j
    have a6 := hom_inQ (b := b) (c := c) |>.int ((p : Int) ^ (top g).toNat)
    try dsimp only at a4 a5 a6
    rw [a, a2, a3, at_int hi, a4, a5]
    congr 1
  have e2 : (evf t n w * (((p : Int) ^ (k * j) : Int) : Fn (Qd Rat b c))).f i = inQ (val r (tab n w) * (p : Int) ^ (k * j)) := by
    have a := H.mul (evf t n w) (((p : Int) ^ (k * j) : Int) : Fn (Qd Rat b c))
    have a3 := H.int ((p : Int) ^ (k * j))
    try dsimp only at a a3
    have a4 := hom_inQ (b := b) (c := c) |>.mul (val r (tab n w)) ((p : Int) ^ (k * j))
    try dsimp only at a4
    rw [a, a3, ev_tab, at_int hi, a4]
    congr 1
  try dsimp only at h1
  rw [e1, e2] at h1
  exact ⟨val r (tab n w), by rw [inQ_inj h1]; exact Int.mul_comm _ _⟩
def nm (x : Qd Int b c) : Int := x.u * x.u - b * (x.u * x.v) + c * (x.v * x.v)
theorem nm_mul (x y : Qd Int b c) : nm (x * y) = nm x * nm y := by
  have e1 := qmul_u x y
  have e2 := qmul_v x y
  unfold nm
  rw [e1, e2]
  grind
theorem nm_pow (x : Qd Int b c) (k : Nat) : nm (x ^ k) = nm x ^ k := by
  induction k with
  | zero =>
    rw [Semiring.pow_zero, Int.pow_zero]
    show (1 : Int) * 1 - b * (1 * 0) + c * (0 * 0) = 1
    omega
  | succ k ih => rw [Semiring.pow_succ, nm_mul, ih, Int.pow_succ]
theorem nm_int (k : Int) : nm ((k : Int) : Qd Int b c) = k * k := by
  show k * k - b * (k * 0) + c * (0 * 0) = k * k
  omega
/-- the quadratic letter: the norm of a value is divided -/
theorem nm_div {t π : Fn (Qd Rat b c)} {p n : Nat} {f : L} (X : Ctx t π p n f) {g : B} (O : OrdOk t π p n g) {y : Fn (Qd Rat b c)} {k : Nat} (h : OO t π n g (y * π ^ k)) {i : Nat} {β : Qd Int b c} (hi : t.f i = qInQ om) (hy : y.f i = qInQ β) : (p : Int) ^ (2 * k) ∣ nm β := by
  refine powdiv X.P (2 * (top g).toNat) (2 * k) _ fun j => ?_
  obtain ⟨w, hw⟩ := cleared_pow X O h j
  have h1 := congrArg (fun x : Fn (Qd Rat b c) => x.f i) hw
  have H := hom_at (R := Qd Rat b c) i
  have e1 : (y ^ j * (((p : Int) ^ (top g).toNat : Int) : Fn (Qd Rat b c))).f i = qInQ (β ^ j * (((p : Int) ^ (top g).toNat : Int) : Qd Int b c)) := by
    have a := H.mul (y ^ j) (((p : Int) ^ (top g).toNat : Int) : Fn (Qd Rat b c))
    have a2 := H.pow y j
    have a3 := H.int ((p : Int) ^ (top g).toNat)
    try dsimp only at a a2 a3
    have a4 := hom_qInQ.mul (β ^ j) (((p : Int) ^ (top g).toNat : Int) : Qd Int b c)
    have a5 := hom_qInQ.pow β j
    have a6 := (hom_qInQ (b := b) (c := c)).int ((p : Int) ^ (top g).toNat)
    try dsimp only at a4 a5 a6
    rw [a, a2, a3, hy, a4, a5, a6]
  have e2 : (evf t n w * (((p : Int) ^ (k * j) : Int) : Fn (Qd Rat b c))).f i = qInQ (⟨(qd b c (tab n w)).2.1, (qd b c (tab n w)).2.2⟩ * (((p : Int) ^ (k * j) : Int) : Qd Int b c)) := by
    have a := H.mul (evf t n w) (((p : Int) ^ (k * j) : Int) : Fn (Qd Rat b c))
    have a3 := H.int ((p : Int) ^ (k * j))
    try dsimp only at a a3
    have a4 := hom_qInQ.mul (⟨(qd b c (tab n w)).2.1, (qd b c (tab n w)).2.2⟩ : Qd Int b c) (((p : Int) ^ (k * j) : Int) : Qd Int b c)
    have a6 := (hom_qInQ (b := b) (c := c)).int ((p : Int) ^ (k * j))
    try dsimp only at a4 a6
    rw [a, a3, ev_tab, at_om hi, a4, a6]
  try dsimp only at h1
  rw [e1, e2] at h1
  have h2 := congrArg nm (qInQ_inj h1)
  rw [nm_mul, nm_mul, nm_pow, nm_int, nm_int] at h2
  have e3 : (p : Int) ^ (2 * (top g).toNat) = (p : Int) ^ (top g).toNat * (p : Int) ^ (top g).toNat := by rw [← Int.pow_add]; congr 1; omega
  have e4 : (p : Int) ^ (2 * k * j) = (p : Int) ^ (k * j) * (p : Int) ^ (k * j) := by rw [← Int.pow_add]; congr 1; rw [Nat.mul_assoc]; omega
  rw [e3, e4, h2]
  exact Int.dvd_mul_left _ _
end
theorem small_of {p : Nat} (P : Pr p) {k Bd : Nat} {D : Int} (h : (p : Int) ^ k ∣ D) (h0 : D ≠ 0) (hB : D.natAbs < 2 ^ Bd) : k ≤ Bd := by
  have h1 : (p ^ k) ∣ D.natAbs := by
    have := Int.natAbs_dvd_natAbs.mpr h
    rwa [Int.natAbs_pow, Int.natAbs_natCast] at this
  have h2 := Nat.le_of_dvd (by omega) h1
  have h3 : 2 ^ k ≤ p ^ k := Nat.pow_le_pow_left P.two k
  have h4 : 2 ^ k < 2 ^ Bd := by omega
  exact Nat.le_of_lt ((Nat.pow_lt_pow_iff_right (by omega)).mp h4)
/-- polynomials with whole zeros alone -/
theorem pack_lin {f : L} {n p Bd : Nat} (pb : Prb p) (rs : List Int) (hn : rs.length = n) (n0 : 0 < n) (fl : f.length = n + 1) (fm : at_ f n = 1) (hz : ∀ r ∈ rs, val r f = 0) (hv : vdm rs ≠ 0) (hB : (vdm rs).natAbs < 2 ^ Bd) : Pack f n p Bd := by
  let pt : Nat → Int := fun i => rs.getD i (rs.headD 0)
  have hpt : ∀ i, pt i ∈ rs := fun i => by
    show rs.getD i (rs.headD 0) ∈ rs
    rw [List.getD_eq_getElem?_getD]
    by_cases h : i < rs.length
    · rw [List.getElem?_eq_getElem h]; exact List.getElem_mem h
    · rw [List.getElem?_eq_none (by omega)]
      cases rs with
      | nil => simp at hn; omega
      | cons a r => simp
  have hpt2 : ∀ r ∈ rs, ∃ i, pt i = r := fun r hr => by
    obtain ⟨i, hi, rfl⟩ := List.getElem_of_mem hr
    exact ⟨i, by show rs.getD i _ = _; rw [List.getD_eq_getElem?_getD, List.getElem?_eq_getElem hi]; rfl⟩
  let t : Fn (Qd Rat (0 : Int) (0 : Int)) := ⟨fun i => inQ (pt i)⟩
  have X : Ctx t (piQ p) p n f := by
    refine ⟨pb, n0, fl, fm, Fn.ext' fun i => ?_, piQ_ok (by have := pb.P.two; omega), fun c hc i hi => ?_⟩
    · rw [at_int (r := pt i) rfl, hz _ (hpt i), zero_at]; exact hom_inQ.zero
    · have h1 : ∀ r ∈ rs, (0 : Int) ∣ val r (tab n c) := fun r hr => by
        obtain ⟨j, hj⟩ := hpt2 r hr
        have h2 := congrArg (fun x : Fn (Qd Rat (0 : Int) (0 : Int)) => x.f j) hc
        try dsimp only at h2
        rw [ev_tab, at_int (r := pt j) rfl, zero_at, hj] at h2
        rw [inQ_zero h2]; exact Int.dvd_refl _
      have h2 := newton 0 rs (tab n c) (fun k hk => at_ge (by rw [len_tab]; omega)) h1 i
      have h3 := Int.zero_dvd.mp h2
      rw [at_tab, if_pos hi] at h3
      rcases Int.mul_eq_zero.mp h3 with h | h
      · exact absurd h hv
      · exact h
  refine ⟨⟨_, inferInstance, t, piQ p, X, fun b O d hd => ?_⟩⟩
  have hO := O.eO hd
  have g := O.G.gk d hd
  have h1 : ∀ r ∈ rs, (p : Int) ^ (kOf b d).toNat ∣ val r (gOf b d) := fun r hr => by
    obtain ⟨j, hj⟩ := hpt2 r hr
    exact int_div X O hO (i := j) (by show inQ (pt j) = _; rw [hj])
  have h2 := newton _ rs (gOf b d) (fun k hk => at_ge (by rw [g.len]; omega)) h1 d
  rw [g.one, Int.mul_one] at h2
  have := small_of pb.P h2 hv hB
  have := g.k0
  omega
theorem qd_map (b c e : Int) (s : L) : (qd b c (s.map (e * ·))).2.1 = e * (qd b c s).2.1 ∧ (qd b c (s.map (e * ·))).2.2 = e * (qd b c s).2.2 := by
  induction s with
  | nil => simp [qd]
  | cons a s ih =>
    simp only [List.map_cons, qd]
    rw [ih.1, ih.2]
    exact ⟨by grind, by grind⟩
/-- polynomials with a quadratic piece -/
theorem pack_quad {f : L} {n p Bd : Nat} {b c : Int} (pb : Prb p) (rs : List Int) (hn : rs.length + 2 = n) (fl : f.length = n + 1) (fm : at_ f n = 1) (hz : ∀ r ∈ rs, val r f = 0) (hq : (qd b c f).2.1 = 0 ∧ (qd b c f).2.2 = 0)
    (hv : vdm rs * qprod b c rs ≠ 0) (hD : b * b - 4 * c ≠ 0) (hB : (vdm rs * qprod b c rs * (2 * (b * b - 4 * c))).natAbs < 2 ^ Bd) : Pack f n p Bd := by
  have hpp := pb.P.two
  let t : Fn (Qd Rat b c) := ⟨fun i => if i < rs.length then inQ (rs.getD i 0) else qInQ om⟩
  have hpt : ∀ i, t.f i = qInQ om ∨ ∃ r ∈ rs, t.f i = inQ r := fun i => by
    show (if i < rs.length then inQ (rs.getD i 0) else qInQ om) = qInQ om ∨ ∃ r ∈ rs, (if i < rs.length then inQ (rs.getD i 0) else qInQ om) = inQ r
    by_cases h : i < rs.length
    · right
      exact ⟨rs.getD i 0, by rw [List.getD_eq_getElem?_getD, List.getElem?_eq_getElem h]; exact List.getElem_mem h, by rw [if_pos h]⟩
    · left; rw [if_neg h]
  have hpt2 : ∀ r ∈ rs, ∃ i, t.f i = inQ r := fun r hr => by
    obtain ⟨i, hi, rfl⟩ := List.getElem_of_mem hr
    exact ⟨i, by show (if i < rs.length then inQ (rs.getD i 0) else qInQ om) = _; rw [if_pos hi, List.getD_eq_getElem?_getD, List.getElem?_eq_getElem hi]; rfl⟩
  have hom : t.f rs.length = qInQ om := by
    show (if rs.length < rs.length then inQ (rs.getD rs.length 0) else qInQ om) = _
    rw [if_neg (by omega)]
  have X : Ctx t (piQ p) p n f := by
    refine ⟨pb, by omega, fl, fm, Fn.ext' fun i => ?_, piQ_ok (by omega), fun cf hc i hi => ?_⟩
    · rcases hpt i with h | ⟨r, hr, h⟩
      · rw [at_om h, hq.1, hq.2, zero_at]; exact hom_qInQ.zero
      · rw [at_int h, hz r hr, zero_at]; exact hom_inQ.zero
    · have h1 : ∀ r ∈ rs, (0 : Int) ∣ val r (tab n cf) := fun r hr => by
        obtain ⟨j, hj⟩ := hpt2 r hr
        have h2 := congrArg (fun x : Fn (Qd Rat b c) => x.f j) hc
        try dsimp only at h2
        rw [ev_tab, at_int hj, zero_at] at h2
        rw [inQ_zero h2]; exact Int.dvd_refl _
      have h2 : (qd b c (tab n cf)).2.1 = 0 ∧ (qd b c (tab n cf)).2.2 = 0 := by
        have h2 := congrArg (fun x : Fn (Qd Rat b c) => x.f rs.length) hc
        try dsimp only at h2
        rw [ev_tab, at_om hom, zero_at] at h2
        exact qInQ_zero h2
      have h3 := Int.zero_dvd.mp (newtonQ 0 b c rs (tab n cf) (fun k hk => at_ge (by rw [len_tab]; omega)) h1 (by rw [h2.1]; exact Int.dvd_refl _) (by rw [h2.2]; exact Int.dvd_refl _) i)
      rw [at_tab, if_pos hi] at h3
      rcases Int.mul_eq_zero.mp h3 with h | h
      · exact absurd h hv
      · exact h
  refine ⟨⟨_, inferInstance, t, piQ p, X, fun g O d hd => ?_⟩⟩
  have hO := O.eO hd
  have G := O.G.gk d hd
  generalize hk : (kOf g d).toNat = k at *
  have hO' : OO t (piQ p) n g (ev t (gOf g d) * piQ p ^ k) := by unfold eOf at hO; rwa [hk] at hO
  have h1 : ∀ r ∈ rs, (p : Int) ^ k ∣ val r (gOf g d) := fun r hr => by
    obtain ⟨j, hj⟩ := hpt2 r hr
    exact int_div X O hO' hj
  have hN := nm_div X O hO' hom (at_om hom _)
  have hN2 : (p : Int) ^ (2 * k) ∣ nm ((⟨(qd b c (gOf g d)).2.1, (qd b c (gOf g d)).2.2⟩ : Qd Int b c) + (((p : Int) ^ k : Int) : Qd Int b c)) := by
    refine nm_div X O (y := ev t (gOf g d) + (((p : Int) ^ k : Int) : Fn (Qd Rat b c))) ?_ hom ?_
    · have h2 := O.sub.add _ _ hO' O.sub.one
      have h3 := X.ppi k
      have e : ev t (gOf g d) * piQ p ^ k + 1 = (ev t (gOf g d) + (((p : Int) ^ k : Int) : Fn (Qd Rat b c))) * piQ p ^ k := by
        generalize (((p : Int) ^ k : Int) : Fn (Qd Rat b c)) = P1 at *
        generalize (piQ p ^ k : Fn (Qd Rat b c)) = q1 at *
        grind
      rwa [e] at h2
    · have H := hom_at (R := Qd Rat b c) rs.length
      have a := H.add (ev t (gOf g d)) (((p : Int) ^ k : Int) : Fn (Qd Rat b c))
      have a3 := H.int ((p : Int) ^ k)
      have a4 := hom_qInQ.add (⟨(qd b c (gOf g d)).2.1, (qd b c (gOf g d)).2.2⟩ : Qd Int b c) (((p : Int) ^ k : Int) : Qd Int b c)
      have a6 := (hom_qInQ (b := b) (c := c)).int ((p : Int) ^ k)
      try dsimp only at a a3 a4 a6
      rw [a, a3, at_om hom, a4, a6]
  generalize hu : (qd b c (gOf g d)).2.1 = u at *
  generalize hw : (qd b c (gOf g d)).2.2 = v at *
  have hP := pb.P.ppos k
  have e2k : (p : Int) ^ (2 * k) = (p : Int) ^ k * (p : Int) ^ k := by rw [← Int.pow_add]; congr 1; omega
  have hN' : (p : Int) ^ k * (p : Int) ^ k ∣ u * u - b * (u * v) + c * (v * v) := by rw [← e2k]; exact hN
  have hN2' : (p : Int) ^ k * (p : Int) ^ k ∣ (u + (p : Int) ^ k) * (u + (p : Int) ^ k) - b * ((u + (p : Int) ^ k) * v) + c * (v * v) := by
    rw [← e2k]
    have e : nm ((⟨u, v⟩ : Qd Int b c) + (((p : Int) ^ k : Int) : Qd Int b c)) = (u + (p : Int) ^ k) * (u + (p : Int) ^ k) - b * ((u + (p : Int) ^ k) * v) + c * (v * v) := by
      show (u + (p : Int) ^ k) * (u + (p : Int) ^ k) - b * ((u + (p : Int) ^ k) * (v + 0)) + c * ((v + 0) * (v + 0)) = _
      rw [Int.add_zero]
    rw [e] at hN2; exact hN2
  generalize hPk : (p : Int) ^ k = P at *
  have hT : P ∣ 2 * u - b * v := by
    have h3 := Int.dvd_sub hN2' hN'
    have e : (u + P) * (u + P) - b * ((u + P) * v) + c * (v * v) - (u * u - b * (u * v) + c * (v * v)) = P * (2 * u - b * v) + P * P := by grind
    rw [e] at h3
    have h4 : P * P ∣ P * (2 * u - b * v) := by
      have := Int.dvd_sub h3 (Int.dvd_refl (P * P))
      have e2 : P * (2 * u - b * v) + P * P - P * P = P * (2 * u - b * v) := by omega
      rwa [e2] at this
    exact Int.dvd_of_mul_dvd_mul_left (by omega) h4
  have hV : P ∣ (b * b - 4 * c) * v := by
    have h5 : P * P ∣ (b * b - 4 * c) * v * ((b * b - 4 * c) * v) := by
      have h6 : P * P ∣ (2 * u - b * v) * (2 * u - b * v) := Int.mul_dvd_mul hT hT
      have e : (b * b - 4 * c) * v * ((b * b - 4 * c) * v) = (b * b - 4 * c) * ((2 * u - b * v) * (2 * u - b * v) - 4 * (u * u - b * (u * v) + c * (v * v))) := by grind
      rw [e]
      exact Int.dvd_mul_of_dvd_right (Int.dvd_sub h6 (Int.dvd_mul_of_dvd_right hN'))
    have := sqdiv pb.P k ((b * b - 4 * c) * v) (by rw [e2k]; exact h5)
    rwa [hPk] at this
  have hU : P ∣ 2 * (b * b - 4 * c) * u := by
    have e : 2 * (b * b - 4 * c) * u = (b * b - 4 * c) * (2 * u - b * v) + b * ((b * b - 4 * c) * v) := by grind
    rw [e]; exact Int.dvd_add (Int.dvd_mul_of_dvd_right hT) (Int.dvd_mul_of_dvd_right hV)
  have hs := newtonQ P b c rs ((gOf g d).map (2 * (b * b - 4 * c) * ·)) (fun j hj => by rw [at_map _ _ (by simp), at_ge (by rw [G.len]; omega)]; simp)
    (fun r hr => by rw [val_map]; exact Int.dvd_mul_of_dvd_right (h1 r hr))
    (by rw [(qd_map b c _ _).1, hu]; exact hU)
    (by rw [(qd_map b c _ _).2, hw]
        have e : 2 * (b * b - 4 * c) * v = 2 * ((b * b - 4 * c) * v) := by grind
        rw [e]; exact Int.dvd_mul_of_dvd_right hV) d
  rw [at_map _ _ (by simp), G.one, Int.mul_one, ← hPk] at hs
  have := small_of pb.P hs (by
    intro h
    rcases Int.mul_eq_zero.mp h with h | h
    · exact hv h
    · omega) hB
  have := G.k0
  omega
end Bd
set_option linter.all false
namespace Bd
open Lean.Grind
/-! ### the law's products -/
def lconvN (f g : L) (n : Nat) (acc : L) : L := It n (fun i acc => addRow (at_ f i) g i g.length acc) acc
def lTimes (f g : L) : L := trim (lconvN f g f.length (zeros (f.length + g.length)))
def lProd (some_ : LL) : L := some_.foldl lTimes [1]
theorem len_lconvN (f g : L) (n : Nat) (acc : L) : (lconvN f g n acc).length = acc.length := by
  induction n with
  | zero => rfl
  | succ n ih => show (addRow _ g n g.length (lconvN f g n acc)).length = _; rw [len_addRow, ih]
theorem at_lconvN (f g : L) (n : Nat) (acc : L) (h : n + g.length ≤ acc.length + 1) (j : Nat) : at_ (lconvN f g n acc) j = at_ acc j + SI n fun i => if i ≤ j ∧ j < i + g.length then at_ f i * at_ g (j - i) else 0 := by
  induction n with
  | zero => rw [SI_zero, Int.add_zero]; rfl
  | succ n ih =>
    show at_ (addRow (at_ f n) g n g.length (lconvN f g n acc)) j = _
    rw [at_addRow _ _ _ _ _ (by rw [len_lconvN]; omega), ih (by omega), SI_succ]; omega
section
variable {A : Type} [CommRing A]
theorem ev_lTimes (t : A) (f g : L) : ev t (lTimes f g) = ev t f * ev t g := by
  unfold lTimes
  rw [ev_trim]
  have key : ∀ n acc, n + g.length ≤ acc.length + 1 → ev t (lconvN f g n acc) = ev t acc + evf t n (at_ f) * ev t g := fun n acc h => by
    induction n with
    | zero => simp only [lconvN, It, evf, S]; grind
    | succ n ih =>
      show ev t (addRow (at_ f n) g n g.length (lconvN f g n acc)) = _
      rw [ev_addRow _ _ _ _ _ _ (by rw [len_lconvN]; omega), ih (by omega)]
      simp only [evf, S]
      show _ = _ + (evf t n (at_ f) + _) * ev t g
      unfold ev evf
      grind
  rw [key _ _ (by rw [len_zeros]; omega), ev_zeros]
  unfold ev
  grind
end
theorem val_lTimes (r : Int) (f g : L) : val r (lTimes f g) = val r f * val r g := by rw [← ev_val, ← ev_val, ← ev_val, ev_lTimes]
/-- monic of degree m -/
structure Mon (f : L) (m : Nat) : Prop where
  len : f.length = m + 1
  one : at_ f m = 1
theorem lTimes_tab {f g : L} {m k : Nat} (F : Mon f m) (G : Mon g k) : lTimes f g = tab (m + k + 1) (at_ (lconvN f g f.length (zeros (f.length + g.length)))) ∧ at_ (lconvN f g f.length (zeros (f.length + g.length))) (m + k) = 1 := by
  have hf := F.len
  have hg := G.len
  have hat : ∀ j, at_ (lconvN f g f.length (zeros (f.length + g.length))) j = SI (m + 1) fun i => if i ≤ j ∧ j < i + g.length then at_ f i * at_ g (j - i) else 0 := fun j => by
    rw [at_lconvN _ _ _ _ (by rw [len_zeros]; omega), at_zeros, hf]; omega
  have h1 : at_ (lconvN f g f.length (zeros (f.length + g.length))) (m + k) = 1 := by
    rw [hat, SI_one (k := m) (by omega) fun i hi hne => by rw [if_neg (by omega)]]
    rw [if_pos (by omega), F.one]
    have : m + k - m = k := by omega
    rw [this, G.one]; omega
  refine ⟨trim_eq ?_ (fun j => ?_) (.inr ?_), h1⟩
  · rw [len_tab, len_lconvN, len_zeros]; omega
  · rw [at_tab]
    split
    · rfl
    · rw [hat]; exact (SI_z fun i hi => if_neg (by omega)).symm
  · rw [len_tab, at_tab, if_pos (by omega)]
    have : m + k + 1 - 1 = m + k := by omega
    rw [this, h1]; omega
theorem Mon.mul {f g : L} {m k : Nat} (F : Mon f m) (G : Mon g k) : Mon (lTimes f g) (m + k) := by
  obtain ⟨h1, h2⟩ := lTimes_tab F G
  rw [h1]
  exact ⟨len_tab _ _, by rw [at_tab, if_pos (by omega)]; exact h2⟩
theorem SI_abs (n : Nat) (f : Nat → Int) (K : Nat) (h : ∀ i, i < n → (f i).natAbs ≤ K) : (SI n f).natAbs ≤ n * K := by
  induction n with
  | zero => rw [SI_zero]; simp
  | succ n ih =>
    rw [SI_succ, Nat.succ_mul]
    have h1 := ih fun i hi => h i (by omega)
    have h2 := h n (by omega)
    have h3 := Int.natAbs_add_le (SI n f) (f n)
    omega
theorem Bn.times {f g : L} {N M : Nat} (F : Bn N f) (G : Bn M g) (hl : f.length ≤ 16) : Bn (N + M + 4) (lTimes f g) := fun k => by
  unfold lTimes
  rw [at_trim, at_lconvN _ _ _ _ (by rw [len_zeros]; omega), at_zeros, Int.zero_add]
  have h := SI_abs f.length (fun i => if i ≤ k ∧ k < i + g.length then at_ f i * at_ g (k - i) else 0) (2 ^ N * 2 ^ M) fun i hi => by
    split
    · rw [Int.natAbs_mul]; exact Nat.mul_le_mul (F _) (G _)
    · simp
  have e : 2 ^ (N + M + 4) = 16 * (2 ^ N * 2 ^ M) := by rw [Nat.pow_add, Nat.pow_add]; omega
  rw [e]
  exact Nat.le_trans h (Nat.mul_le_mul_right _ hl)
theorem mon_one : Mon [1] 0 := ⟨rfl, rfl⟩
theorem mon_lin (r : Int) : Mon [r, 1] 1 := ⟨rfl, rfl⟩
theorem bn_lin {r : Int} {N : Nat} (h : r.natAbs ≤ 2 ^ N) : Bn N [r, 1] := fun k => by
  have h1 : 1 ≤ 2 ^ N := Nat.pow_pos (by omega)
  match k with
  | 0 => exact h
  | 1 => exact h1
  | k + 2 => rw [at_ge (by simp)]; simp
theorem foldl_mon : ∀ (ps : LL) (f : L) (m : Nat), Mon f m → (∀ q ∈ ps, Mon q 1) → Mon (ps.foldl lTimes f) (m + ps.length)
  | [], f, m, F, _ => F
  | q :: ps, f, m, F, h => by
    have := foldl_mon ps (lTimes f q) (m + 1) (F.mul (h q List.mem_cons_self)) fun x hx => h x (List.mem_cons_of_mem _ hx)
    rw [List.foldl_cons, List.length_cons]
    have e : m + (ps.length + 1) = m + 1 + ps.length := by omega
    rw [e]; exact this
theorem foldl_bn (M : Nat) : ∀ (ps : LL) (f : L) (m N : Nat), Mon f m → Bn N f → (∀ q ∈ ps, Mon q 1 ∧ Bn M q) → m + ps.length ≤ 15 → Bn (N + ps.length * (M + 4)) (ps.foldl lTimes f)
  | [], f, m, N, F, B, _, _ => by rw [List.length_nil, Nat.zero_mul]; exact B
  | q :: ps, f, m, N, F, B, h, hl => by
    rw [List.length_cons] at hl
    have hq := h q List.mem_cons_self
    have := foldl_bn M ps (lTimes f q) (m + 1) (N + M + 4) (F.mul hq.1) (B.times hq.2 (by rw [F.len]; omega)) (fun x hx => h x (List.mem_cons_of_mem _ hx)) (by omega)
    rw [List.foldl_cons, List.length_cons]
    have e : N + (ps.length + 1) * (M + 4) = N + M + 4 + ps.length * (M + 4) := by rw [Nat.succ_mul]; omega
    rw [e]; exact this
theorem foldl_val (r : Int) : ∀ (ps : LL) (f : L), (val r f = 0 ∨ ∃ q ∈ ps, val r q = 0) → val r (ps.foldl lTimes f) = 0
  | [], f, h => by
    rcases h with h | ⟨q, hq, _⟩
    · exact h
    · cases hq
  | q :: ps, f, h => by
    rw [List.foldl_cons]
    refine foldl_val r ps _ ?_
    rcases h with h | ⟨x, hx, h⟩
    · left; rw [val_lTimes, h]; simp
    · rcases List.mem_cons.mp hx with rfl | hx
      · left; rw [val_lTimes, h]; simp
      · exact .inr ⟨x, hx, h⟩
theorem val_lin (r s : Int) : val r [s, 1] = s + r := by simp [val]
/-- a product of linear pieces x - r -/
theorem lin_facts (rs : List Int) (M : Nat) (hM : ∀ r ∈ rs, r.natAbs ≤ 2 ^ M) (hl : rs.length ≤ 15) : Mon (lProd (rs.map fun r => [0 - r, 1])) rs.length ∧ Bn (rs.length * (M + 4)) (lProd (rs.map fun r => [0 - r, 1])) ∧ ∀ r ∈ rs, val r (lProd (rs.map fun r => [0 - r, 1])) = 0 := by
  unfold lProd
  refine ⟨?_, ?_, fun r hr => ?_⟩
  · have := foldl_mon (rs.map fun r => [0 - r, 1]) [1] 0 mon_one fun q hq => by
      obtain ⟨r, _, rfl⟩ := List.mem_map.mp hq; exact mon_lin _
    rwa [Nat.zero_add, List.length_map] at this
  · have := foldl_bn M (rs.map fun r => [0 - r, 1]) [1] 0 0 mon_one (fun k => by
      match k with
      | 0 => simp [at_]
      | k + 1 => rw [at_ge (by simp)]; simp) (fun q hq => by
      obtain ⟨r, hr, rfl⟩ := List.mem_map.mp hq
      exact ⟨mon_lin _, bn_lin (by have := hM r hr; omega)⟩) (by simpa using hl)
    rwa [Nat.zero_add, List.length_map] at this
  · exact foldl_val r _ _ (.inr ⟨[0 - r, 1], List.mem_map.mpr ⟨r, hr, rfl⟩, by rw [val_lin]; omega⟩)
theorem apart_ne {r : Int} {rs : List Int} (h : ∀ x ∈ rs, x ≠ r) : apart r rs ≠ 0 := by
  induction rs with
  | nil => simp [apart]
  | cons a rs ih =>
    intro h0
    rcases Int.mul_eq_zero.mp h0 with h1 | h1
    · exact h a List.mem_cons_self (by omega)
    · exact ih (fun x hx => h x (List.mem_cons_of_mem _ hx)) h1
theorem vdm_ne {rs : List Int} (h : rs.Pairwise (· ≠ ·)) : vdm rs ≠ 0 := by
  induction h with
  | nil => simp [vdm]
  | cons h1 _ ih =>
    intro h0
    rcases Int.mul_eq_zero.mp h0 with h2 | h2
    · exact apart_ne (fun x hx => (h1 x hx).symm) h2
    · exact ih h2
theorem apart_le {r : Int} {rs : List Int} {M : Nat} (hr : 0 ≤ r ∧ r ≤ 2 ^ M) (h : ∀ x ∈ rs, 0 ≤ x ∧ x ≤ 2 ^ M) : (apart r rs).natAbs ≤ 2 ^ (M * rs.length) := by
  induction rs with
  | nil => simp [apart]
  | cons a rs ih =>
    simp only [apart, List.length_cons]
    rw [Int.natAbs_mul, Nat.mul_succ, Nat.pow_add, Nat.mul_comm]
    refine Nat.mul_le_mul (ih fun x hx => h x (List.mem_cons_of_mem _ hx)) ?_
    have := h a List.mem_cons_self
    have e : ((2 ^ M : Nat) : Int) = (2 : Int) ^ M := by simp
    omega
theorem vdm_le {rs : List Int} {M : Nat} (h : ∀ x ∈ rs, 0 ≤ x ∧ x ≤ 2 ^ M) : (vdm rs).natAbs ≤ 2 ^ (M * (rs.length * rs.length)) := by
  induction rs with
  | nil => simp [vdm]
  | cons a rs ih =>
    simp only [vdm, List.length_cons]
    rw [Int.natAbs_mul]
    have h1 := apart_le (h a List.mem_cons_self) fun x hx => h x (List.mem_cons_of_mem _ hx)
    have h2 := ih fun x hx => h x (List.mem_cons_of_mem _ hx)
    refine Nat.le_trans (Nat.mul_le_mul h1 h2) ?_
    rw [← Nat.pow_add]
    refine Nat.pow_le_pow_right (by omega) ?_
    rw [← Nat.mul_add]
    refine Nat.mul_le_mul_left _ ?_
    rw [Nat.succ_mul, Nat.mul_succ]; omega
/-! ### the law's polynomials -/
def rBase (n : Nat) (T : Nat → Int) : List Int := (List.range n).map fun j : Nat => (j : Int) + n * T j
def fBase (n : Nat) (T : Nat → Int) : L := lProd ((List.range n).map fun j : Nat => [0 - (j : Int) - n * T j, 1])
theorem fBase_eq (n : Nat) (T : Nat → Int) : fBase n T = lProd ((rBase n T).map fun r => [0 - r, 1]) := by
  unfold fBase rBase
  rw [List.map_map]
  congr 2
  funext j
  show [0 - ((j : Nat) : Int) - n * T j, 1] = [0 - ((j : Int) + n * T j), 1]
  congr 1; omega
theorem rBase_len (n : Nat) (T : Nat → Int) : (rBase n T).length = n := by simp [rBase]
theorem rBase_mem {n : Nat} {T : Nat → Int} (hT : ∀ j, 0 ≤ T j ∧ T j ≤ 2) {r : Int} (h : r ∈ rBase n T) : 0 ≤ r ∧ r ≤ 3 * n := by
  obtain ⟨j, hj, rfl⟩ := List.mem_map.mp h
  have hj := List.mem_range.mp hj
  have h1 := Int.mul_nonneg (show (0 : Int) ≤ n by omega) (hT j).1
  have h2 := Int.mul_le_mul_of_nonneg_left (hT j).2 (show (0 : Int) ≤ n by omega)
  omega
theorem rBase_ne (n : Nat) (T : Nat → Int) : (rBase n T).Pairwise (· ≠ ·) := by
  unfold rBase
  rw [List.pairwise_map]
  refine List.Pairwise.imp_of_mem ?_ (List.pairwise_lt_range (n := n))
  intro i j hi hj hij h
  have hi := List.mem_range.mp hi
  have hj := List.mem_range.mp hj
  have h1 : ((i : Int) + n * T i) % n = i := by rw [Int.add_mul_emod_self_left]; exact Int.emod_eq_of_lt (by omega) (by omega)
  have h2 : ((j : Int) + n * T j) % n = j := by rw [Int.add_mul_emod_self_left]; exact Int.emod_eq_of_lt (by omega) (by omega)
  rw [h, h2] at h1
  omega
/-- what is known of a polynomial of the law -/
structure Good (f : L) (p : Nat) : Prop where
  n : ∃ n, Mon f n ∧ 1 ≤ n ∧ n ≤ 9
  bn : Bn 100 f
  end_ : disc f = 0 ∨ 7 < f.length ∨ Pack f (f.length - 1) p 200
theorem good_base {p : Nat} (pb : Prb p) {n : Nat} (h1 : 1 ≤ n) (h6 : n ≤ 6) {T : Nat → Int} (hT : ∀ j, 0 ≤ T j ∧ T j ≤ 2) : Good (fBase n T) p := by
  rw [fBase_eq]
  have hr : ∀ r ∈ rBase n T, 0 ≤ r ∧ r ≤ 2 ^ 5 := fun r hr => by have := rBase_mem hT hr; omega
  obtain ⟨a1, a2, a3⟩ := lin_facts (rBase n T) 5 (fun r h => by have := hr r h; omega) (by rw [rBase_len]; omega)
  rw [rBase_len] at a1 a2
  refine ⟨⟨n, a1, h1, by omega⟩, a2.mono (by omega), .inr (.inr ?_)⟩
  have el : (lProd ((rBase n T).map fun r => [0 - r, 1])).length - 1 = n := by rw [a1.len]; omega
  rw [el]
  refine pack_lin pb (rBase n T) (rBase_len _ _) (by omega) a1.len a1.one a3 (vdm_ne (rBase_ne n T)) ?_
  have h := vdm_le hr
  rw [rBase_len] at h
  have : 5 * (n * n) < 200 := by
    have := Nat.mul_le_mul h6 h6
    omega
  exact Nat.lt_of_le_of_lt h (Nat.pow_lt_pow_right (by omega) this)
/-! ### with a quadratic piece -/
/-- the law's draws of shifts -/
def Tm (m : Int) (j : Nat) : Int := m / ((j : Int) + 1) % 3
theorem Tm_rng (m : Int) (j : Nat) : 0 ≤ Tm m j ∧ Tm m j ≤ 2 := by unfold Tm; omega
def okPair (b c : Int) : Bool := b * b - 4 * c != 0 && (List.range 13).all fun r => qval b c r != 0
def okQ (n : Nat) (m : Int) (b c : Int) : Bool :=
  (b * b - 4 * c != 0 && qprod b c (rBase n (Tm m)) != 0) || disc (lTimes (fBase n (Tm m)) [c, b, 1]) == 0
def okQs (n M : Nat) : Bool := (List.range 9).all fun i => (List.range 9).all fun k => okPair ((k : Int) - 4) (1 + (i : Int)) || (List.range M).all fun m => okQ n m ((k : Int) - 4) (1 + (i : Int))
/-- with a square part -/
def fSq (a d : Int) (e : Nat) : L := lTimes (lProd [[a, 1], [a, 1], [d, 1]]) (lProd ((List.range e).map fun j : Nat => [0 - 10 - (j : Int), 1]))
def okS : Bool := (List.range 5).all fun a => (List.range 9).all fun d => (List.range 4).all fun e => disc (fSq a d e) == 0
end Bd
set_option linter.all false
namespace Bd
set_option maxRecDepth 100000 in
theorem okQ1 : okQs 1 3 = true := by decide +kernel
set_option maxRecDepth 100000 in
theorem okQ2 : okQs 2 6 = true := by decide +kernel
set_option maxRecDepth 100000 in
theorem okQ3 : okQs 3 18 = true := by decide +kernel
set_option maxRecDepth 100000 in
theorem okQ4 : okQs 4 36 = true := by decide +kernel
set_option maxRecDepth 100000 in
theorem okS_ : okS = true := by decide +kernel
end Bd
set_option linter.all false
namespace Bd
open Lean.Grind
theorem rBase_congr {n : Nat} {T T' : Nat → Int} (h : ∀ j, j < n → T j = T' j) : rBase n T = rBase n T' := by
  unfold rBase
  exact List.map_congr_left fun j hj => by rw [h j (List.mem_range.mp hj)]
theorem fBase_congr {n : Nat} {T T' : Nat → Int} (h : ∀ j, j < n → T j = T' j) : fBase n T = fBase n T' := by
  rw [fBase_eq, fBase_eq, rBase_congr h]
theorem qprod_ne {b c : Int} {rs : List Int} (h : ∀ r ∈ rs, qval b c r ≠ 0) : qprod b c rs ≠ 0 := by
  induction rs with
  | nil => simp [qprod]
  | cons a rs ih =>
    intro h0
    rcases Int.mul_eq_zero.mp h0 with h1 | h1
    · exact h a List.mem_cons_self h1
    · exact ih (fun x hx => h x (List.mem_cons_of_mem _ hx)) h1
theorem qprod_le {b c : Int} {rs : List Int} (hb : -4 ≤ b ∧ b ≤ 4) (hc : 1 ≤ c ∧ c ≤ 9) (h : ∀ r ∈ rs, 0 ≤ r ∧ r ≤ 12) : (qprod b c rs).natAbs ≤ 2 ^ (8 * rs.length) := by
  induction rs with
  | nil => simp [qprod]
  | cons a rs ih =>
    simp only [qprod, List.length_cons]
    rw [Int.natAbs_mul, Nat.mul_succ, Nat.pow_add, Nat.mul_comm]
    refine Nat.mul_le_mul (ih fun x hx => h x (List.mem_cons_of_mem _ hx)) ?_
    have ha := h a List.mem_cons_self
    unfold qval
    have h1 : a * a ≤ 12 * 12 := Int.mul_le_mul ha.2 ha.2 ha.1 (by omega)
    have h0 := Int.mul_nonneg ha.1 ha.1
    have h2 : b * a ≤ 4 * a := Int.mul_le_mul_of_nonneg_right hb.2 ha.1
    have h3 : -4 * a ≤ b * a := Int.mul_le_mul_of_nonneg_right hb.1 ha.1
    omega
theorem mon_quad (b c : Int) : Mon [c, b, 1] 2 := ⟨rfl, rfl⟩
theorem val_quad (b c r : Int) : val r [c, b, 1] = qval b c r := by simp [val, qval]; grind
theorem qd_quad (b c : Int) : (qd b c [c, b, 1]).2.1 = 0 ∧ (qd b c [c, b, 1]).2.2 = 0 := by simp [qd]
theorem qd_times {b c : Int} (f : L) : (qd b c (lTimes f [c, b, 1])).2.1 = 0 ∧ (qd b c (lTimes f [c, b, 1])).2.2 = 0 := by
  have h := ev_lTimes (om : Qd Int b c) f [c, b, 1]
  rw [ev_om, ev_om, ev_om, (qd_quad b c).1, (qd_quad b c).2] at h
  have h1 := congrArg Qd.u h
  have h2 := congrArg Qd.v h
  rw [qmul_u] at h1
  rw [qmul_v] at h2
  simp only [Int.mul_zero, Int.sub_zero, Int.add_zero] at h1 h2
  exact ⟨h1, h2⟩
theorem Tm_mod (m : Int) (M : Nat) {n : Nat} (hn : n ≤ 4) (hM : (n = 1 ∧ M = 3) ∨ (n = 2 ∧ M = 6) ∨ (n = 3 ∧ M = 18) ∨ (n = 4 ∧ M = 36)) : ∀ j, j < n → Tm m j = Tm ((m % (M : Int)).toNat : Nat) j := fun j hj => by
  have h0 := Int.emod_nonneg m (show (M : Int) ≠ 0 by omega)
  rw [Int.toNat_of_nonneg h0]
  unfold Tm
  have : j = 0 ∨ j = 1 ∨ j = 2 ∨ j = 3 := by omega
  rcases hM with ⟨rfl, rfl⟩ | ⟨rfl, rfl⟩ | ⟨rfl, rfl⟩ | ⟨rfl, rfl⟩ <;> rcases this with rfl | rfl | rfl | rfl <;> simp <;> omega
theorem okQ_of {n : Nat} (h1 : 1 ≤ n) (h4 : n ≤ 4) (m : Int) {b c : Int} (hb : -4 ≤ b ∧ b ≤ 4) (hc : 1 ≤ c ∧ c ≤ 9) : okPair b c = true ∨ (b * b - 4 * c ≠ 0 ∧ qprod b c (rBase n (Tm m)) ≠ 0) ∨ disc (lTimes (fBase n (Tm m)) [c, b, 1]) = 0 := by
  obtain ⟨M, hM, hok⟩ : ∃ M, ((n = 1 ∧ M = 3) ∨ (n = 2 ∧ M = 6) ∨ (n = 3 ∧ M = 18) ∨ (n = 4 ∧ M = 36)) ∧ okQs n M = true := by
    have : n = 1 ∨ n = 2 ∨ n = 3 ∨ n = 4 := by omega
    rcases this with rfl | rfl | rfl | rfl
    · exact ⟨3, by omega, okQ1⟩
    · exact ⟨6, by omega, okQ2⟩
    · exact ⟨18, by omega, okQ3⟩
    · exact ⟨36, by omega, okQ4⟩
  have hT := Tm_mod m M h4 hM
  unfold okQs at hok
  simp only [List.all_eq_true, List.mem_range, Bool.or_eq_true] at hok
  have h := hok (c - 1).toNat (by omega) (b + 4).toNat (by omega)
  have eb : (((b + 4).toNat : Nat) : Int) - 4 = b := by omega
  have ec : 1 + (((c - 1).toNat : Nat) : Int) = c := by omega
  rw [eb, ec] at h
  rcases h with h | h
  · exact .inl h
  · right
    have hm := h (m % (M : Int)).toNat (by
      have := Int.emod_nonneg m (show (M : Int) ≠ 0 by omega)
      have := Int.emod_lt_of_pos m (show (0 : Int) < M by omega)
      omega)
    unfold okQ at hm
    rw [rBase_congr (fun j hj => (hT j hj).symm), fBase_congr (fun j hj => (hT j hj).symm)] at hm
    simpa [Bool.or_eq_true, Bool.and_eq_true] using hm
theorem good_quad {p : Nat} (pb : Prb p) {n : Nat} (h1 : 1 ≤ n) (h4 : n ≤ 4) (m : Int) {b c : Int} (hb : -4 ≤ b ∧ b ≤ 4) (hc : 1 ≤ c ∧ c ≤ 9) : Good (lTimes (fBase n (Tm m)) [c, b, 1]) p := by
  have hT := Tm_rng m
  have hr : ∀ r ∈ rBase n (Tm m), 0 ≤ r ∧ r ≤ 12 := fun r hr => by have := rBase_mem hT hr; omega
  obtain ⟨a1, a2, a3⟩ := lin_facts (rBase n (Tm m)) 4 (fun r h => by have := hr r h; omega) (by rw [rBase_len]; omega)
  rw [← fBase_eq, rBase_len] at a1 a2
  rw [← fBase_eq] at a3
  have mon := a1.mul (mon_quad b c)
  refine ⟨⟨n + 2, mon, by omega, by omega⟩, ?_, ?_⟩
  · refine (a2.times (g := [c, b, 1]) (M := 4) (fun k => ?_) (by rw [a1.len]; omega)).mono (by omega)
    match k with
    | 0 => show c.natAbs ≤ 16; omega
    | 1 => show b.natAbs ≤ 16; omega
    | 2 => show (1 : Int).natAbs ≤ 16; omega
    | k + 3 => rw [at_ge (by simp)]; simp
  · have hn : (lTimes (fBase n (Tm m)) [c, b, 1]).length - 1 = n + 2 := by rw [mon.len]; omega
    have key : b * b - 4 * c ≠ 0 → qprod b c (rBase n (Tm m)) ≠ 0 → Pack (lTimes (fBase n (Tm m)) [c, b, 1]) ((lTimes (fBase n (Tm m)) [c, b, 1]).length - 1) p 200 := fun k1 k2 => by
      rw [hn]
      refine pack_quad pb (rBase n (Tm m)) (by rw [rBase_len]) mon.len mon.one (fun r hr => by rw [val_lTimes, a3 r hr]; simp) (qd_times _) (fun h => ?_) k1 ?_
      · rcases Int.mul_eq_zero.mp h with h | h
        · exact vdm_ne (rBase_ne n (Tm m)) h
        · exact k2 h
      · have e1 := vdm_le (rs := rBase n (Tm m)) (M := 4) fun r h => by have := hr r h; omega
        have e2 := qprod_le hb hc hr
        rw [rBase_len] at e1 e2
        have e3 : (2 * (b * b - 4 * c)).natAbs ≤ 2 ^ 8 := by
          have q1 : b * b ≤ 16 := by
            have : b = -4 ∨ b = -3 ∨ b = -2 ∨ b = -1 ∨ b = 0 ∨ b = 1 ∨ b = 2 ∨ b = 3 ∨ b = 4 := by omega
            rcases this with h | h | h | h | h | h | h | h | h <;> subst h <;> omega
          have q0 : 0 ≤ b * b := by
            have : b = -4 ∨ b = -3 ∨ b = -2 ∨ b = -1 ∨ b = 0 ∨ b = 1 ∨ b = 2 ∨ b = 3 ∨ b = 4 := by omega
            rcases this with h | h | h | h | h | h | h | h | h <;> subst h <;> omega
          omega
        rw [Int.natAbs_mul, Int.natAbs_mul]
        refine Nat.lt_of_le_of_lt (Nat.mul_le_mul (Nat.mul_le_mul e1 e2) e3) ?_
        rw [← Nat.pow_add, ← Nat.pow_add]
        refine Nat.pow_lt_pow_right (by omega) ?_
        have := Nat.mul_le_mul h4 h4
        omega
    rcases okQ_of h1 h4 m hb hc with h | ⟨k1, k2⟩ | h
    · right; right
      unfold okPair at h
      simp only [Bool.and_eq_true, bne_iff_ne, List.all_eq_true, List.mem_range] at h
      refine key h.1 (qprod_ne fun r hr' => ?_)
      have := hr r hr'
      have h2 := h.2 r.toNat (by omega)
      have e : ((r.toNat : Nat) : Int) = r := by omega
      rwa [e] at h2
    · exact .inr (.inr (key k1 k2))
    · exact .inl h
/-! ### a zero at the prime's fifth power -/
def rFive (e : Nat) (p : Int) : List Int := ((List.range (5 + e)).map fun j : Nat => (j : Int)) ++ [p * p * p * p * p]
def fFive (e : Nat) (p : Int) : L := lProd (((List.range (5 + e)).map fun j : Nat => [0 - (j : Int), 1]) ++ [[0 - p * p * p * p * p, 1]])
theorem fFive_eq (e : Nat) (p : Int) : fFive e p = lProd ((rFive e p).map fun r => [0 - r, 1]) := by
  unfold fFive rFive
  rw [List.map_append, List.map_map]; rfl
def okF (p : Nat) : Bool := vdm (rFive 0 p) != 0 && decide ((vdm (rFive 0 p)).natAbs < 2 ^ 200) && (List.range 3).all fun e => (rFive e p).all fun r => decide (r.natAbs ≤ 2 ^ 28)
theorem okF_ : ([2, 3, 5, 7, 43, 47] : List Nat).all okF = true := by decide +kernel
theorem foldl_bn2 (M : Nat) (ps : LL) (q : L) (K : Nat) (h : ∀ x ∈ ps, Mon x 1 ∧ Bn M x) (hq : Mon q 1 ∧ Bn K q) (hl : ps.length ≤ 14) : Bn (ps.length * (M + 4) + K + 4) (lProd (ps ++ [q])) := by
  unfold lProd
  rw [List.foldl_append]
  have h1 := foldl_bn M ps [1] 0 0 mon_one (fun k => by
      match k with
      | 0 => simp [at_]
      | k + 1 => rw [at_ge (by simp)]; simp) h (by omega)
  have h2 := foldl_mon ps [1] 0 mon_one fun x hx => (h x hx).1
  rw [Nat.zero_add] at h1 h2
  exact h1.times hq.2 (by rw [h2.len]; omega)
theorem good_five {p : Nat} (pb : Prb p) (hp : p ∈ ([2, 3, 5, 7, 43, 47] : List Nat)) {e : Nat} (he : e < 3) : Good (fFive e p) p := by
  have ok := List.all_eq_true.mp okF_ p hp
  unfold okF at ok
  simp only [List.all_eq_true, List.mem_range, Bool.and_eq_true, bne_iff_ne, decide_eq_true_eq] at ok
  obtain ⟨⟨k1, k2⟩, k3⟩ := ok
  have k3 := k3 e he
  have hlen : (rFive e (p : Int)).length = 6 + e := by simp [rFive]; omega
  rw [fFive_eq]
  obtain ⟨a1, a2, a3⟩ := lin_facts (rFive e (p : Int)) 28 k3 (by omega)
  rw [hlen] at a1
  refine ⟨⟨6 + e, a1, by omega, by omega⟩, ?_, .inr ?_⟩
  · rw [← fFive_eq]
    unfold fFive
    refine (foldl_bn2 3 _ _ 28 (fun x hx => ?_) ⟨mon_lin _, bn_lin ?_⟩ (by simp; omega)).mono (by simp; omega)
    · obtain ⟨j, hj, rfl⟩ := List.mem_map.mp hx
      have := List.mem_range.mp hj
      exact ⟨mon_lin _, bn_lin (by omega)⟩
    · have := k3 (p * p * p * p * p : Int) (by unfold rFive; simp)
      omega
  · have el : (lProd ((rFive e (p : Int)).map fun r => [0 - r, 1])).length - 1 = 6 + e := by rw [a1.len]; omega
    by_cases h0 : e = 0
    · right
      rw [el]
      subst h0
      exact pack_lin pb (rFive 0 (p : Int)) hlen (by omega) a1.len a1.one a3 k1 k2
    · left; omega
/-! ### a square part -/
theorem sq_zero {a d : Int} (ha : 0 ≤ a ∧ a < 5) (hd : 0 ≤ d ∧ d < 9) {e : Nat} (he : e < 4) : disc (fSq a d e) = 0 := by
  have h1 := List.all_eq_true.mp okS_ a.toNat (List.mem_range.mpr (by omega))
  have h2 := List.all_eq_true.mp h1 d.toNat (List.mem_range.mpr (by omega))
  have h3 := List.all_eq_true.mp h2 e (List.mem_range.mpr he)
  have h4 := beq_iff_eq.mp h3
  have ea : ((a.toNat : Nat) : Int) = a := by omega
  have ed : ((d.toNat : Nat) : Int) = d := by omega
  rw [← ea, ← ed]; exact h4
theorem good_sq {p : Nat} {a d : Int} (ha : 0 ≤ a ∧ a < 5) (hd : 0 ≤ d ∧ d < 9) {e : Nat} (he : e < 7) : Good (fSq a d e) p := by
  have b1 : ∀ x ∈ ([[a, 1], [a, 1], [d, 1]] : LL), Mon x 1 ∧ Bn 4 x := fun x hx => by
    simp only [List.mem_cons, List.not_mem_nil, or_false] at hx
    rcases hx with rfl | rfl | rfl
    · exact ⟨mon_lin _, bn_lin (by omega)⟩
    · exact ⟨mon_lin _, bn_lin (by omega)⟩
    · exact ⟨mon_lin _, bn_lin (by omega)⟩
  have b2 : ∀ x ∈ ((List.range e).map fun j : Nat => ([0 - 10 - (j : Int), 1] : L)), Mon x 1 ∧ Bn 4 x := fun x hx => by
    obtain ⟨j, hj, rfl⟩ := List.mem_map.mp hx
    have := List.mem_range.mp hj
    exact ⟨mon_lin _, bn_lin (by omega)⟩
  have one : Bn 0 [1] := fun k => by
      match k with
      | 0 => simp [at_]
      | k + 1 => rw [at_ge (by simp)]; simp
  have m1 := foldl_mon _ [1] 0 mon_one fun x hx => (b1 x hx).1
  have m2 := foldl_mon _ [1] 0 mon_one fun x hx => (b2 x hx).1
  have n1 := foldl_bn 4 _ [1] 0 0 mon_one one b1 (by simp)
  have n2 := foldl_bn 4 _ [1] 0 0 mon_one one b2 (by simp; omega)
  simp only [List.length_map, List.length_range, List.length_cons, List.length_nil, Nat.zero_add] at m1 m2 n1 n2
  have mon := m1.mul m2
  have hlen : (fSq a d e).length = 3 + e + 1 := mon.len
  refine ⟨⟨3 + e, mon, by omega, by omega⟩, ?_, ?_⟩
  · exact (n1.times n2 (by rw [m1.len]; omega)).mono (by omega)
  · by_cases h : e < 4
    · left
      exact sq_zero ha hd h
    · right; left; omega
end Bd
set_option Elab.async false
set_option linter.all false
set_option maxRecDepth 100000
set_option maxHeartbeats 4000000
namespace Bw
open PySem L2

/-! ### what a value tells of the data in a heap -/
theorem same_t {K : PySem.W.Frag} {H H' : Hp} {a : Addr} {xs : List V} (e : Same H H') (h : SqT K H a xs) : SqT K H' a xs := Evl.ex_t e h
theorem Paired.imp {α β : Type} {R R' : α → β → Prop} (h : ∀ a b, R a b → R' a b) : ∀ {xs : List α} {ys : List β}, Paired R xs ys → Paired R' xs ys
  | _, _, .nil => .nil
  | _, _, .cons r t => .cons (h _ _ r) (Paired.imp h t)
theorem Paired.len {α β : Type} {R : α → β → Prop} : ∀ {xs : List α} {ys : List β}, Paired R xs ys → xs.length = ys.length
  | _, _, .nil => rfl
  | _, _, .cons _ t => by simp [Paired.len t]
theorem Paired.at {α β : Type} {R : α → β → Prop} : ∀ {xs : List α} {ys : List β}, Paired R xs ys → ∀ {i : Nat} {y : β}, ys[i]? = some y → ∃ x, xs[i]? = some x ∧ R x y
  | _, _, .nil, i, y, h => by simp at h
  | _, _, .cons (a := a) r t, 0, y, h => by simp at h; subst h; exact ⟨_, rfl, r⟩
  | _, _, .cons r t, i + 1, y, h => by
    obtain ⟨x, h1, h2⟩ := Paired.at t (i := i) (y := y) (by simpa using h)
    exact ⟨x, by simpa using h1, h2⟩
theorem Paired.at' {α β : Type} {R : α → β → Prop} : ∀ {xs : List α} {ys : List β}, Paired R xs ys → ∀ {i : Nat} {x : α}, xs[i]? = some x → ∃ y, ys[i]? = some y ∧ R x y
  | _, _, .nil, i, y, h => by simp at h
  | _, _, .cons (a := a) r t, 0, y, h => by simp at h; subst h; exact ⟨_, rfl, r⟩
  | _, _, .cons r t, i + 1, y, h => by
    obtain ⟨x, h1, h2⟩ := Paired.at' t (i := i) (x := y) (by simpa using h)
    exact ⟨x, by simpa using h1, h2⟩
theorem Paired.app {α β : Type} {R : α → β → Prop} : ∀ {xs xs' : List α} {ys ys' : List β}, Paired R xs ys → Paired R xs' ys' → Paired R (xs ++ xs') (ys ++ ys')
  | _, _, _, _, .nil, s => s
  | _, _, _, _, .cons r t, s => .cons r (Paired.app t s)
theorem Paired.set {α β : Type} {R : α → β → Prop} {x : α} {y : β} (r : R x y) : ∀ {xs : List α} {ys : List β} (i : Nat), Paired R xs ys → Paired R (xs.set i x) (ys.set i y)
  | _, _, _, .nil => .nil
  | _, _, 0, .cons _ t => .cons r t
  | _, _, i + 1, .cons q t => .cons q (Paired.set r i t)
theorem Paired.drop {α β : Type} {R : α → β → Prop} : ∀ {xs : List α} {ys : List β} (i : Nat), Paired R xs ys → Paired R (xs.drop i) (ys.drop i)
  | _, _, 0, h => h
  | _, _, _ + 1, .nil => .nil
  | _, _, i + 1, .cons _ t => Paired.drop i t
theorem Paired.take {α β : Type} {R : α → β → Prop} : ∀ {xs : List α} {ys : List β} (i : Nat), Paired R xs ys → Paired R (xs.take i) (ys.take i)
  | _, _, 0, h => .nil
  | _, _, _ + 1, .nil => .nil
  | _, _, i + 1, .cons r t => .cons r (Paired.take i t)
theorem Paired.rev {α β : Type} {R : α → β → Prop} : ∀ {xs : List α} {ys : List β}, Paired R xs ys → Paired R xs.reverse ys.reverse
  | _, _, .nil => .nil
  | _, _, .cons r t => by rw [List.reverse_cons, List.reverse_cons]; exact Paired.app (Paired.rev t) (.cons r .nil)
theorem Paired.flat {α β : Type} {R : α → β → Prop} {x : α} {y : β} (r : R x y) (n : Nat) : Paired R (List.replicate n x) (List.replicate n y) := by
  induction n with
  | zero => exact .nil
  | succ n ih => rw [List.replicate_succ, List.replicate_succ]; exact .cons r ih

class Den (α : Type) where
  D : Hp → V → α → Prop
  mono : ∀ {H H' : Hp} {v : V} {x : α}, Same H H' → D H v x → D H' v x
instance dInt : Den Int := ⟨fun _ v x => v = .int x, fun _ h => h⟩
instance dBool : Den Bool := ⟨fun _ v x => v = .bl x, fun _ h => h⟩
instance dOpt {α : Type} [Den α] : Den (Option α) := ⟨fun H v x => match x with | none => v = .non | some y => Den.D H v y, fun {H H' v x} e h => match x, h with | none, h => h | some _, h => Den.mono e h⟩
instance dList {α : Type} [Den α] : Den (List α) := ⟨fun H v xs => ∃ a vs, v = .ref a ∧ H a = some (.lst vs) ∧ Paired (Den.D H) vs xs,
  fun e ⟨a, vs, h1, h2, h3⟩ => ⟨a, vs, h1, e _ _ h2, Paired.imp (fun _ _ q => Den.mono e q) h3⟩⟩
instance dPair {α β : Type} [Den α] [Den β] : Den (α × β) := ⟨fun H v x => ∃ a v1 v2, v = .ref a ∧ H a = some (.tup [v1, v2]) ∧ Den.D H v1 x.1 ∧ Den.D H v2 x.2,
  fun e ⟨a, v1, v2, h1, h2, h3, h4⟩ => ⟨a, v1, v2, h1, e _ _ h2, Den.mono e h3, Den.mono e h4⟩⟩
theorem d_ints {H : Hp} {vs : List V} {ns : List Int} : Paired (Den.D H) vs ns ↔ vs = ns.map V.int := by
  constructor
  · intro h
    induction h with
    | nil => rfl
    | cons r _ ih => rw [List.map_cons, ← ih, show _ = V.int _ from r]
  · intro h
    subst h
    induction ns with
    | nil => exact .nil
    | cons n ns ih => exact .cons rfl ih
/-- arguments -/
class DenA (X : Type) where
  DA : Hp → List V → X → Prop
  mono : ∀ {H H' : Hp} {vs : List V} {x : X}, Same H H' → DA H vs x → DA H' vs x
  n : Nat
  len : ∀ {H : Hp} {vs : List V} {x : X}, DA H vs x → vs.length = n
instance aUnit : DenA Unit := ⟨fun _ vs _ => vs = [], fun _ h => h, 0, fun h => by rw [h]; rfl⟩
instance aCons {α X : Type} [Den α] [DenA X] : DenA (α × X) := ⟨fun H vs x => ∃ v r, vs = v :: r ∧ Den.D H v x.1 ∧ DenA.DA H r x.2, fun e ⟨v, r, h1, h2, h3⟩ => ⟨v, r, h1, Den.mono e h2, DenA.mono e h3⟩, DenA.n X + 1,
  fun ⟨v, r, h1, h2, h3⟩ => by rw [h1, List.length_cons, DenA.len h3]⟩

/-! ### frozen heaps and own lists -/
structure Step (G H G2 H2 : Hp) : Prop where
  g : Same G G2
  i : Same G2 H2
  h : Same H H2
  d : ∀ b, G b = none → H b ≠ none → G2 b = none
theorem Step.refl {G H : Hp} (e : Same G H) : Step G H G H := ⟨Same.refl _, e, Same.refl _, fun _ h _ => h⟩
theorem not_none {H H' : Hp} {b : Addr} (e : Same H H') (h : H b ≠ none) : H' b ≠ none := by
  cases q : H b with
  | none => exact absurd q h
  | some o => rw [e b o q]; simp
theorem Step.trans {G H G1 H1 G2 H2 : Hp} (a : Step G H G1 H1) (b : Step G1 H1 G2 H2) : Step G H G2 H2 :=
  ⟨a.g.trans b.g, b.i, a.h.trans b.h, fun c h1 h2 => b.d c (a.d c h1 h2) (not_none a.h h2)⟩
theorem same_new {H : Hp} {p : Addr} {o : HO} (h : H p = none) : Same H (upd H p o) := fun a u e => by rw [upd_ne (ne_of_none e h)]; exact e
/-- a new frozen object -/
theorem Step.new {G H : Hp} {p : Addr} {o : HO} (e : Same G H) (h : H p = none) : Step G H (upd G p o) (upd H p o) := by
  have hg : G p = none := e.free h
  refine ⟨same_new hg, fun a u q => ?_, same_new h, fun b h1 h2 => ?_⟩
  · by_cases c : a = p
    · subst c; rw [upd_same] at q ⊢; exact q
    · rw [upd_ne c] at q ⊢; exact e a u q
  · have c : b ≠ p := fun c => by subst c; exact h2 h
    rw [upd_ne c]; exact h1
abbrev Ls := List (Addr × List V)
structure Ok (G : Hp) (L : Ls) (H : Hp) : Prop where
  i : Same G H
  l : ∀ p ∈ L, G p.1 = none ∧ H p.1 = some (.lst p.2)
theorem Ok.step {G H G2 H2 : Hp} {L : Ls} (o : Ok G L H) (s : Step G H G2 H2) : Ok G2 L H2 :=
  ⟨s.i, fun p hp => ⟨s.d _ (o.l p hp).1 (by rw [(o.l p hp).2]; simp), s.h _ _ (o.l p hp).2⟩⟩
theorem Ok.mono {G H : Hp} {L L' : Ls} (o : Ok G L H) (h : ∀ p ∈ L', p ∈ L) : Ok G L' H := ⟨o.i, fun p hp => o.l p (h p hp)⟩
/-- where a def stands: it began at G0, H0; now G is frozen, L are its own lists -/
structure Fr (G0 H0 G : Hp) (L : Ls) (H : Hp) : Prop where
  s : Step G0 H0 G H
  o : Ok G L H
  f : ∀ p ∈ L, H0 p.1 = none
  nd : (L.map (·.1)).Nodup
theorem Fr.start {G H : Hp} (e : Same G H) : Fr G H G [] H := ⟨Step.refl e, ⟨e, fun p hp => (nomatch hp)⟩, fun p hp => (nomatch hp), List.nodup_nil⟩
theorem Fr.step {G0 H0 G H G2 H2 : Hp} {L : Ls} (F : Fr G0 H0 G L H) (s : Step G H G2 H2) : Fr G0 H0 G2 L H2 := ⟨F.s.trans s, F.o.step s, F.f, F.nd⟩
theorem Fr.new {G0 H0 G H : Hp} {L : Ls} (F : Fr G0 H0 G L H) {l : Addr} {vs : List V} (h : H l = none) : Fr G0 H0 G ((l, vs) :: L) (upd H l (.lst vs)) := by
  have hne : ∀ p ∈ L, p.1 ≠ l := fun p hp e => by have := (F.o.l p hp).2; rw [e, h] at this; cases this
  have e := same_new (o := .lst vs) h
  refine ⟨⟨F.s.g, F.s.i.trans e, F.s.h.trans e, F.s.d⟩, ⟨F.o.i.trans e, fun p hp => ?_⟩, fun p hp => ?_, ?_⟩
  · rcases List.mem_cons.mp hp with rfl | hp
    · exact ⟨F.o.i.free h, upd_same⟩
    · exact ⟨(F.o.l p hp).1, e _ _ (F.o.l p hp).2⟩
  · rcases List.mem_cons.mp hp with rfl | hp
    · exact F.s.h.free h
    · exact F.f p hp
  · rw [List.map_cons, List.nodup_cons]
    refine ⟨fun hm => ?_, F.nd⟩
    obtain ⟨p, hp, e⟩ := List.mem_map.mp hm
    exact hne p hp e
theorem Fr.upd {G0 H0 G H : Hp} {L : Ls} {l : Addr} {vs ws : List V} (F : Fr G0 H0 G ((l, vs) :: L) H) : Fr G0 H0 G ((l, ws) :: L) (L2.upd H l (.lst ws)) := by
  have hl := F.o.l (l, vs) List.mem_cons_self
  have hf : H0 l = none := F.f (l, vs) List.mem_cons_self
  have hnd := F.nd
  rw [List.map_cons, List.nodup_cons] at hnd
  have hne : ∀ p ∈ L, p.1 ≠ l := fun p hp e => hnd.1 (List.mem_map.mpr ⟨p, hp, e⟩)
  have e : ∀ {H' : Hp}, H' l = none → Same H' H → Same H' (L2.upd H l (.lst ws)) := fun {H'} h s a u q => by
    have : a ≠ l := fun c => by rw [c, h] at q; cases q
    rw [upd_ne this]; exact s a u q
  refine ⟨⟨F.s.g, e hl.1 F.s.i, e hf F.s.h, F.s.d⟩, ⟨e hl.1 F.o.i, fun p hp => ?_⟩, fun p hp => ?_, ?_⟩
  · rcases List.mem_cons.mp hp with rfl | hp
    · exact ⟨hl.1, upd_same⟩
    · have := F.o.l p (List.mem_cons_of_mem _ hp)
      exact ⟨this.1, by rw [upd_ne (hne p hp)]; exact this.2⟩
  · rcases List.mem_cons.mp hp with rfl | hp
    · exact hf
    · exact F.f p (List.mem_cons_of_mem _ hp)
  · rw [List.map_cons, List.nodup_cons]; exact hnd
theorem Fr.swap {G0 H0 G H : Hp} {L : Ls} {a b : Addr × List V} (F : Fr G0 H0 G (a :: b :: L) H) : Fr G0 H0 G (b :: a :: L) H := by
  have hm : ∀ p, p ∈ b :: a :: L → p ∈ a :: b :: L := fun p hp => by simp at hp ⊢; rcases hp with h | h | h <;> simp [h]
  refine ⟨F.s, F.o.mono hm, fun p hp => F.f p (hm p hp), ?_⟩
  have := F.nd
  simp only [List.map_cons, List.nodup_cons, List.mem_cons, not_or] at this ⊢
  exact ⟨⟨fun e => this.1.1 e.symm, this.2.1⟩, this.1.2, this.2.2⟩
theorem Fr.upd2 {G0 H0 G H : Hp} {L : Ls} {a : Addr × List V} {l : Addr} {vs ws : List V} (F : Fr G0 H0 G (a :: (l, vs) :: L) H) : Fr G0 H0 G (a :: (l, ws) :: L) (L2.upd H l (.lst ws)) := F.swap.upd.swap
/-- an own list that is changed no more -/
theorem Fr.freeze {G0 H0 G H : Hp} {L : Ls} {l : Addr} {vs : List V} (F : Fr G0 H0 G ((l, vs) :: L) H) : Fr G0 H0 (L2.upd G l (.lst vs)) L H ∧ Same G (L2.upd G l (.lst vs)) := by
  have hl := F.o.l (l, vs) List.mem_cons_self
  have hf : H0 l = none := F.f (l, vs) List.mem_cons_self
  have hnd := F.nd
  rw [List.map_cons, List.nodup_cons] at hnd
  have hne : ∀ p ∈ L, p.1 ≠ l := fun p hp e => hnd.1 (List.mem_map.mpr ⟨p, hp, e⟩)
  have e := same_new (o := .lst vs) hl.1
  have i : Same (L2.upd G l (.lst vs)) H := fun a u q => by
    by_cases c : a = l
    · subst c; rw [upd_same] at q; rw [← q]; exact hl.2
    · rw [upd_ne c] at q; exact F.o.i a u q
  refine ⟨⟨⟨F.s.g.trans e, i, F.s.h, fun b h1 h2 => ?_⟩, ⟨i, fun p hp => ?_⟩, fun p hp => F.f p (List.mem_cons_of_mem _ hp), hnd.2⟩, e⟩
  · have c : b ≠ l := fun c => by rw [c] at h2; exact h2 hf
    rw [upd_ne c]; exact F.s.d b h1 h2
  · have := F.o.l p (List.mem_cons_of_mem _ hp)
    exact ⟨by rw [upd_ne (hne p hp)]; exact this.1, this.2⟩
theorem Fr.drop {G0 H0 G H : Hp} {L : Ls} {a : Addr × List V} (F : Fr G0 H0 G (a :: L) H) : Fr G0 H0 G L H :=
  ⟨F.s, F.o.mono fun p hp => List.mem_cons_of_mem _ hp, fun p hp => F.f p (List.mem_cons_of_mem _ hp), by have := F.nd; rw [List.map_cons, List.nodup_cons] at this; exact this.2⟩
theorem Fr.frozen {α : Type} [Den α] {G0 H0 G H : Hp} {L : Ls} {l : Addr} {vs : List V} {xs : List α} (F : Fr G0 H0 G ((l, vs) :: L) H) (h : Paired (Den.D G) vs xs) : ∃ G', Fr G0 H0 G' L H ∧ Same G G' ∧ Den.D G' (.ref l) xs := by
  obtain ⟨F', e⟩ := F.freeze
  exact ⟨_, F', e, l, vs, rfl, upd_same, Paired.imp (fun _ _ q => Den.mono e q) h⟩

/-! ### what an expression comes to -/
section
variable {K : PySem.W.Frag} {σ : L2.St} {G : Hp} {L : Ls}
def Ev {α : Type} [Den α] (te : TE) (σ : L2.St) (G : Hp) (L : Ls) (x : α) : Prop :=
  ∀ G1 H1, Same G G1 → Ok G1 L H1 → ∀ Q : VK, (∀ v G2 H2, Step G1 H1 G2 H2 → Den.D G2 v x → Q v H2) → te σ H1 Q
/-- an own list that it makes -/
def EvL {α : Type} [Den α] (te : TE) (σ : L2.St) (G : Hp) (L : Ls) (xs : List α) : Prop :=
  ∀ G1 H1, Same G G1 → Ok G1 L H1 → ∀ Q : VK, (∀ l vs G2 H2, Step G1 H1 G2 H2 → H2 l = none → Paired (Den.D G2) vs xs → Q (.ref l) (upd H2 l (.lst vs))) → te σ H1 Q
def EvT (tt : TT) (σ : L2.St) (G : Hp) (L : Ls) (b : Bool) : Prop :=
  ∀ G1 H1, Same G G1 → Ok G1 L H1 → ∀ Q : Bool → Hp → Prop, (∀ G2 H2, Step G1 H1 G2 H2 → Q b H2) → tt σ H1 Q
def EvA {X : Type} [DenA X] (ta : TA) (σ : L2.St) (G : Hp) (L : Ls) (x : X) : Prop :=
  ∀ G1 H1, Same G G1 → Ok G1 L H1 → ∀ Q : List V → Hp → Prop, (∀ vs G2 H2, Step G1 H1 G2 H2 → DenA.DA G2 vs x → Q vs H2) → ta σ H1 Q
def EvO (to : TO) (σ : L2.St) (G : Hp) (L : Ls) (o : Option Int) : Prop :=
  ∀ G1 H1, Same G G1 → Ok G1 L H1 → ∀ Q : Option Int → Hp → Prop, (∀ G2 H2, Step G1 H1 G2 H2 → Q o H2) → to σ H1 Q
theorem Ev.mono {α : Type} [Den α] {te : TE} {x : α} {G' : Hp} (h : Ev te σ G L x) (e : Same G G') : Ev te σ G' L x := fun G1 H1 e1 o Q q => h G1 H1 (e.trans e1) o Q q
theorem Ev.cast {α : Type} [Den α] {te : TE} {x y : α} (h : Ev te σ G L x) (e : x = y) : Ev te σ G L y := e ▸ h
theorem EvL.cast {α : Type} [Den α] {te : TE} {x y : List α} (h : EvL te σ G L x) (e : x = y) : EvL te σ G L y := e ▸ h
theorem EvT.cast {te : TT} {x y : Bool} (h : EvT te σ G L x) (e : x = y) : EvT te σ G L y := e ▸ h
theorem EvL.ev {α : Type} [Den α] {te : TE} {xs : List α} (h : EvL te σ G L xs) : Ev te σ G L xs := fun G1 H1 e o Q q =>
  h G1 H1 e o Q fun l vs G2 H2 s hl p => q _ _ _ (s.trans (Step.new s.i hl)) ⟨l, vs, rfl, upd_same, Paired.imp (fun _ _ z => Den.mono (same_new (s.i.free hl)) z) p⟩
theorem ev_var {α : Type} [Den α] {i : Nat} {v : V} {x : α} (h : σ[i]? = some (some v)) (d : Den.D G v x) : Ev (tVar i) σ G L x := fun G1 H1 e o Q q => ⟨v, h, q v G1 H1 (Step.refl o.i) (Den.mono e d)⟩
theorem ev_int {i : Int} : Ev (tC (.int i)) σ G L i := fun G1 H1 e o Q q => q _ G1 H1 (Step.refl o.i) rfl
theorem ev_bl {b : Bool} : Ev (tC (.bl b)) σ G L b := fun G1 H1 e o Q q => q _ G1 H1 (Step.refl o.i) rfl
theorem ev_non {α : Type} [Den α] : Ev (tC .non) σ G L (none : Option α) := fun G1 H1 e o Q q => q _ G1 H1 (Step.refl o.i) rfl
theorem ev_some {α : Type} [Den α] {te : TE} {x : α} (h : Ev te σ G L x) : Ev te σ G L (some x) := h
/-- two operands, by values -/
theorem ev_op {α β γ : Type} [Den α] [Den β] [Den γ] {r : R2} {ta tb : TE} {x : α} {y : β} {z : γ} (ha : Ev ta σ G L x) (hb : Ev tb σ G L y)
    (hr : ∀ G1 H1 v w, Ok G1 L H1 → Same G G1 → Den.D G1 v x → Den.D G1 w y → ∀ Q : VK, (∀ u G2 H2, Step G1 H1 G2 H2 → Den.D G2 u z → Q u H2) → r v w H1 Q) : Ev (tOp r ta tb) σ G L z := fun G1 H1 e o Q q =>
  ha G1 H1 e o _ fun v G2 H2 s2 d2 => hb G2 H2 (e.trans s2.g) (o.step s2) _ fun w G3 H3 s3 d3 =>
    hr G3 H3 v w ((o.step s2).step s3) ((e.trans s2.g).trans s3.g) (Den.mono s3.g d2) d3 Q fun u G4 H4 s4 d4 => q u G4 H4 ((s2.trans s3).trans s4) d4
theorem ev_I0 {g : Int → Int → Int} {ta tb : TE} {i j : Int} (ha : Ev ta σ G L i) (hb : Ev tb σ G L j) : Ev (tOp (rI0 fun i j => .int (g i j)) ta tb) σ G L (g i j) :=
  ev_op ha hb fun G1 H1 v w o _ d1 d2 Q q => ⟨i, j, d1, d2, q _ G1 H1 (Step.refl o.i) rfl⟩
theorem ev_I {C : Int → Int → Prop} {g : Int → Int → Int} {ta tb : TE} {i j : Int} (ha : Ev ta σ G L i) (hb : Ev tb σ G L j) (hc : C i j) : Ev (tOp (rI C fun i j => .int (g i j)) ta tb) σ G L (g i j) :=
  ev_op ha hb fun G1 H1 v w o _ d1 d2 Q q => ⟨i, j, d1, d2, hc, q _ G1 H1 (Step.refl o.i) rfl⟩
theorem ev_B0 {g : Int → Int → Bool} {ta tb : TE} {i j : Int} (ha : Ev ta σ G L i) (hb : Ev tb σ G L j) : Ev (tOp (rI0 fun i j => .bl (g i j)) ta tb) σ G L (g i j) :=
  ev_op ha hb fun G1 H1 v w o _ d1 d2 Q q => ⟨i, j, d1, d2, q _ G1 H1 (Step.refl o.i) rfl⟩
theorem ev_eqI {ta tb : TE} {i j : Int} (ha : Ev ta σ G L i) (hb : Ev tb σ G L j) : Ev (tOp rEq ta tb) σ G L (decide (i = j)) :=
  ev_op ha hb fun G1 H1 v w o _ d1 d2 Q q => by
    have d1 : v = V.int i := d1
    have d2 : w = V.int j := d2
    subst d1 d2
    refine ⟨rfl, q _ G1 H1 (Step.refl o.i) ?_⟩
    show V.bl _ = V.bl _
    congr 1
    exact decide_eq_decide.mpr ⟨fun e => V.int.inj e, fun e => by rw [e]⟩
theorem ev_neI {ta tb : TE} {i j : Int} (ha : Ev ta σ G L i) (hb : Ev tb σ G L j) : Ev (tOp rNe ta tb) σ G L (!decide (i = j)) :=
  ev_op ha hb fun G1 H1 v w o _ d1 d2 Q q => by
    have d1 : v = V.int i := d1
    have d2 : w = V.int j := d2
    subst d1 d2
    refine ⟨rfl, q _ G1 H1 (Step.refl o.i) ?_⟩
    show V.bl _ = V.bl _
    congr 2
    exact decide_eq_decide.mpr ⟨fun e => V.int.inj e, fun e => by rw [e]⟩
theorem atI_k {α : Type} {xs : List α} {i : Int} {k : Nat} {x : α} (hi : i = (k : Int)) (h : xs[k]? = some x) : atI xs i = some x := by rw [hi]; exact atI_nat h
theorem atI_m1 {α : Type} {xs : List α} {x : α} (h : xs[xs.length - 1]? = some x) : atI xs (-1) = some x := by
  have hl : 0 < xs.length := by
    rcases Nat.eq_zero_or_pos xs.length with e | e
    · rw [List.getElem?_eq_none (by omega)] at h; cases h
    · exact e
  unfold atI ixN
  rw [if_neg (by omega), if_pos (by omega)]
  have : ((-1 : Int) + (xs.length : Int)).toNat = xs.length - 1 := by omega
  rw [this]; exact h
/-- the item of a frozen list -/
theorem ev_ix {α : Type} [Den α] {ta tb : TE} {xs : List α} {i : Int} {k : Nat} {x : α} (ha : Ev ta σ G L xs) (hb : Ev tb σ G L i) (hi : i = (k : Int)) (hx : xs[k]? = some x) : Ev (tOp (rIxL K) ta tb) σ G L x :=
  ev_op ha hb fun G1 H1 v w o _ d1 d2 Q q => by
    obtain ⟨a, vs, rfl, h1, h2⟩ := d1
    obtain ⟨u, hu, du⟩ := Paired.at h2 hx
    exact ⟨a, vs, i, u, rfl, d2, SqL.of (o.i _ _ h1), atI_k hi hu, q _ G1 H1 (Step.refl o.i) du⟩
theorem ev_ixm {α : Type} [Den α] {ta tb : TE} {xs : List α} {x : α} (ha : Ev ta σ G L xs) (hb : Ev tb σ G L (-1 : Int)) (hx : xs[xs.length - 1]? = some x) : Ev (tOp (rIxL K) ta tb) σ G L x :=
  ev_op ha hb fun G1 H1 v w o _ d1 d2 Q q => by
    obtain ⟨a, vs, rfl, h1, h2⟩ := d1
    obtain ⟨u, hu, du⟩ := Paired.at h2 hx
    exact ⟨a, vs, -1, u, rfl, d2, SqL.of (o.i _ _ h1), atI_m1 (by rw [Paired.len h2]; exact hu), q _ G1 H1 (Step.refl o.i) du⟩
/-- the item of a pair -/
theorem ev_fst {α β : Type} [Den α] [Den β] {ta tb : TE} {x : α × β} (ha : Ev ta σ G L x) (hb : Ev tb σ G L (0 : Int)) : Ev (tOp (rIxT K) ta tb) σ G L x.1 :=
  ev_op ha hb fun G1 H1 v w o _ d1 d2 Q q => by
    obtain ⟨a, v1, v2, rfl, h1, h2, h3⟩ := d1
    exact ⟨a, _, 0, v1, rfl, d2, SqT.of (o.i _ _ h1), atI_k (k := 0) rfl rfl, q _ G1 H1 (Step.refl o.i) h2⟩
theorem ev_snd {α β : Type} [Den α] [Den β] {ta tb : TE} {x : α × β} (ha : Ev ta σ G L x) (hb : Ev tb σ G L (1 : Int)) : Ev (tOp (rIxT K) ta tb) σ G L x.2 :=
  ev_op ha hb fun G1 H1 v w o _ d1 d2 Q q => by
    obtain ⟨a, v1, v2, rfl, h1, h2, h3⟩ := d1
    exact ⟨a, _, 1, v2, rfl, d2, SqT.of (o.i _ _ h1), atI_k (k := 1) rfl rfl, q _ G1 H1 (Step.refl o.i) h3⟩
/-- the item of an own list -/
theorem ev_ixo {α : Type} [Den α] {j : Nat} {tb : TE} {l : Addr} {vs : List V} {i : Int} {k : Nat} {v : V} {x : α} (hs : σ[j]? = some (some (.ref l))) (hl : (l, vs) ∈ L) (hb : Ev tb σ G L i) (hi : i = (k : Int)) (hv : vs[k]? = some v) (hx : Den.D G v x) : Ev (tOp (rIxL K) (tVar j) tb) σ G L x :=
  fun G1 H1 e o Q q => ⟨_, hs, hb G1 H1 e o _ fun w G2 H2 s2 d2 => ⟨l, vs, i, v, rfl, d2, SqL.of ((o.step s2).l _ hl).2, atI_k hi hv, q v G2 H2 s2 (Den.mono (e.trans s2.g) hx)⟩⟩
/-- of ints -/
theorem getD_some {l : List Int} {k : Nat} (h : k < l.length) : l[k]? = some (l.getD k 0) := by
  rw [List.getD_eq_getElem?_getD, List.getElem?_eq_getElem h]; rfl
theorem ev_ixoI {j : Nat} {tb : TE} {l : Addr} {ns : List Int} {i : Int} {k : Nat} (hs : σ[j]? = some (some (.ref l))) (hl : (l, ns.map V.int) ∈ L) (hb : Ev tb σ G L i) (hi : i = (k : Int)) (hk : k < ns.length) : Ev (tOp (rIxL K) (tVar j) tb) σ G L (ns.getD k 0) :=
  ev_ixo hs hl hb hi (v := V.int (ns.getD k 0)) (by rw [List.getElem?_map, getD_some hk]; rfl) rfl
theorem ev_ixI {ta tb : TE} {ns : List Int} {i : Int} {k : Nat} (ha : Ev ta σ G L ns) (hb : Ev tb σ G L i) (hi : i = (k : Int)) (hk : k < ns.length) : Ev (tOp (rIxL K) ta tb) σ G L (ns.getD k 0) := ev_ix ha hb hi (getD_some hk)
theorem ea_nil : EvA tNil σ G L () := fun G1 H1 e o Q q => q [] G1 H1 (Step.refl o.i) rfl
theorem ea_cons {α X : Type} [Den α] [DenA X] {te : TE} {tr : TA} {x : α} {r : X} (h : Ev te σ G L x) (hr : EvA tr σ G L r) : EvA (tCons te tr) σ G L (x, r) := fun G1 H1 e o Q q =>
  h G1 H1 e o _ fun v G2 H2 s2 d2 => hr G2 H2 (e.trans s2.g) (o.step s2) _ fun vs G3 H3 s3 d3 => q (v :: vs) G3 H3 (s2.trans s3) ⟨v, vs, rfl, Den.mono s3.g d2, d3⟩
/-! calls -/
/-- the promise of a def that changes nothing: where Pre holds it hands back F -/
def SpF {X Y : Type} [DenA X] [Den Y] (Pre : X → Prop) (F : X → Y) : Sp := fun vs H Q _ => ∃ G x, Same G H ∧ DenA.DA G vs x ∧ Pre x ∧ ∀ v G2 H2, Step G H G2 H2 → Den.D G2 v (F x) → Q v H2
theorem SpF.len {X Y : Type} [DenA X] [Den Y] {Pre : X → Prop} {F : X → Y} {vs : List V} {H : Hp} {Q : VK} {E : XK} (h : SpF Pre F vs H Q E) : vs.length = DenA.n X := by
  obtain ⟨G, x, _, h, _⟩ := h; exact DenA.len h
theorem ev_call {X Y : Type} [DenA X] [Den Y] {Pre : X → Prop} {F : X → Y} {ta : TA} {E : XK} {x : X} (ha : EvA ta σ G L x) (hp : Pre x) : Ev (tCall (SpF Pre F) [] E ta) σ G L (F x) := fun G1 H1 e o Q q =>
  ha G1 H1 e o _ fun vs G2 H2 s2 d2 => ⟨G2, x, s2.i, by rw [List.append_nil]; exact d2, hp, fun v G3 H3 s3 d3 => q v G3 H3 (s2.trans s3) d3⟩
/-! built-ins -/
theorem ev_len {α : Type} [Den α] {ta : TE} {xs : List α} (ha : Ev ta σ G L xs) : Ev (tCB (fun xs H Q => ∃ p ys, xs = [.ref p] ∧ (SqL K H p ys ∨ SqT K H p ys) ∧ Q (.int ys.length) H) (tCons ta tNil)) σ G L ((xs.length : Nat) : Int) := fun G1 H1 e o Q q =>
  ha G1 H1 e o _ fun v G2 H2 s2 d2 => by
    obtain ⟨a, vs, rfl, h1, h2⟩ := d2
    exact ⟨a, vs, rfl, .inl (SqL.of (s2.i _ _ h1)), q _ G2 H2 s2 (by rw [Paired.len h2]; rfl)⟩
theorem ev_leno {j : Nat} {l : Addr} {vs : List V} (hs : σ[j]? = some (some (.ref l))) (hl : (l, vs) ∈ L) : Ev (tCB (fun xs H Q => ∃ p ys, xs = [.ref p] ∧ (SqL K H p ys ∨ SqT K H p ys) ∧ Q (.int ys.length) H) (tCons (tVar j) tNil)) σ G L ((vs.length : Nat) : Int) := fun G1 H1 e o Q q =>
  ⟨_, hs, l, vs, rfl, .inl (SqL.of (o.l _ hl).2), q _ G1 H1 (Step.refl o.i) rfl⟩
theorem ev_max {ta tb : TE} {i j : Int} (ha : Ev ta σ G L i) (hb : Ev tb σ G L j) : Ev (tCB (fun xs H Q => ∃ i j, xs = [.int i, .int j] ∧ Q (.int (if j > i then j else i)) H) (tCons ta (tCons tb tNil))) σ G L (max i j) := fun G1 H1 e o Q q =>
  ha G1 H1 e o _ fun v G2 H2 s2 d2 => hb G2 H2 (e.trans s2.g) (o.step s2) _ fun w G3 H3 s3 d3 => by
    have d2 : v = V.int i := d2
    have d3 : w = V.int j := d3
    subst d2 d3
    refine ⟨i, j, rfl, q _ G3 H3 (s2.trans s3) ?_⟩
    show V.int _ = V.int _
    congr 1
    split <;> omega
theorem ev_min {ta tb : TE} {i j : Int} (ha : Ev ta σ G L i) (hb : Ev tb σ G L j) : Ev (tCB (fun xs H Q => ∃ i j, xs = [.int i, .int j] ∧ Q (.int (if j < i then j else i)) H) (tCons ta (tCons tb tNil))) σ G L (min i j) := fun G1 H1 e o Q q =>
  ha G1 H1 e o _ fun v G2 H2 s2 d2 => hb G2 H2 (e.trans s2.g) (o.step s2) _ fun w G3 H3 s3 d3 => by
    have d2 : v = V.int i := d2
    have d3 : w = V.int j := d3
    subst d2 d3
    refine ⟨i, j, rfl, q _ G3 H3 (s2.trans s3) ?_⟩
    show V.int _ = V.int _
    congr 1
    split <;> omega
/-! own lists -/
theorem el_nil {α : Type} [Den α] : EvL (tLst tNil) σ G L ([] : List α) := fun G1 H1 e o Q q => ⟨Nat.zero_le _, fun p hp => q p [] G1 H1 (Step.refl o.i) hp .nil⟩
theorem el_one {α : Type} [Den α] {ta : TE} {x : α} (ha : Ev ta σ G L x) : EvL (tLst (tCons ta tNil)) σ G L [x] := fun G1 H1 e o Q q =>
  ha G1 H1 e o _ fun v G2 H2 s2 d2 => ⟨by show 1 ≤ sizeLine; decide, fun p hp => q p [v] G2 H2 s2 hp (.cons d2 .nil)⟩
theorem el_rep {α : Type} [Den α] {ta tb : TE} {x : α} {n : Int} (ha : EvL ta σ G L [x]) (hb : Ev tb σ G L n) (h0 : 0 ≤ n) (h : n ≤ 10000) : EvL (tOp rRep ta tb) σ G L (List.replicate n.toNat x) := fun G1 H1 e o Q q =>
  ha G1 H1 e o _ fun l vs G2 H2 s2 hl p2 => by
    have hs : Step G1 H1 (upd G2 l (.lst vs)) (upd H2 l (.lst vs)) := s2.trans (Step.new s2.i hl)
    refine hb _ _ (e.trans hs.g) (o.step hs) _ fun w G3 H3 s3 d3 => ?_
    have hz : (10000 : Nat) ≤ sizeLine := by decide
    refine ⟨l, n, vs, rfl, d3, s3.h _ _ upd_same, by omega, by omega, ?_, fun p hp => ?_⟩
    · rw [Paired.len p2]; show 1 * n.toNat ≤ sizeLine; omega
    · cases p2 with
      | cons r t =>
        cases t
        rename_i v
        have : (List.replicate n.toNat [v]).flatten = List.replicate n.toNat v := by
          generalize n.toNat = k
          induction k with
          | zero => rfl
          | succ k ih => rw [List.replicate_succ, List.flatten_cons, ih, List.replicate_succ]; rfl
        rw [this]
        exact q p _ G3 H3 (hs.trans s3) hp (Paired.flat (Den.mono ((same_new (s2.i.free hl)).trans s3.g) r) _)
theorem el_cat {α : Type} [Den α] {ta tb : TE} {xs ys : List α} (ha : Ev ta σ G L xs) (hb : Ev tb σ G L ys) (h : xs.length + ys.length ≤ 10000) : EvL (tOp rCat ta tb) σ G L (xs ++ ys) := fun G1 H1 e o Q q =>
  ha G1 H1 e o _ fun v G2 H2 s2 d2 => hb G2 H2 (e.trans s2.g) (o.step s2) _ fun w G3 H3 s3 d3 => by
    obtain ⟨a, vs, rfl, h1, h2⟩ := d2
    obtain ⟨b, ws, rfl, h3, h4⟩ := d3
    have hz : (10000 : Nat) ≤ sizeLine := by decide
    refine ⟨a, b, vs, ws, rfl, rfl, s3.h _ _ (s2.i _ _ h1), s3.i _ _ h3, by rw [Paired.len h2, Paired.len h4]; omega, fun p hp => ?_⟩
    exact q p _ G3 H3 (s2.trans s3) hp (Paired.app (Paired.imp (fun _ _ z => Den.mono s3.g z) h2) h4)
theorem el_list {α : Type} [Den α] {ta : TE} {xs : List α} (ha : Ev ta σ G L xs) : EvL (tCB (fun xs H Q => ∃ p ys, xs = [.ref p] ∧ (SqL K H p ys ∨ SqT K H p ys) ∧ ∀ l, H l = none → Q (.ref l) (upd H l (.lst ys))) (tCons ta tNil)) σ G L xs := fun G1 H1 e o Q q =>
  ha G1 H1 e o _ fun v G2 H2 s2 d2 => by
    obtain ⟨a, vs, rfl, h1, h2⟩ := d2
    exact ⟨a, vs, rfl, .inl (SqL.of (s2.i _ _ h1)), fun l hl => q l vs G2 H2 s2 hl h2⟩
theorem eo_none : EvO tNoPart σ G L none := fun G1 H1 e o Q q => q G1 H1 (Step.refl o.i)
theorem eo_some {te : TE} {i : Int} (h : Ev te σ G L i) : EvO (tPart te) σ G L (some i) := fun G1 H1 e o Q q => h G1 H1 e o _ fun v G2 H2 s2 d2 => ⟨i, d2, q G2 H2 s2⟩
def cutA {α : Type} (xs : List α) (lo hi : Option Int) : List α := (xs.drop (HT.sIx xs.length 0 lo)).take (HT.sIx xs.length xs.length hi - HT.sIx xs.length 0 lo)
theorem Paired.cut {α β : Type} {R : α → β → Prop} {xs : List α} {ys : List β} (h : Paired R xs ys) (lo hi : Option Int) : Paired R (cutA xs lo hi) (cutA ys lo hi) := by
  unfold cutA
  rw [Paired.len h]; exact Paired.take _ (Paired.drop _ h)
theorem el_sl {α : Type} [Den α] {te : TE} {tl th : TO} {xs : List α} {lo hi : Option Int} (h : Ev te σ G L xs) (h1 : EvO tl σ G L lo) (h2 : EvO th σ G L hi) : EvL (tSl (rSlL K) te tl th) σ G L (cutA xs lo hi) := fun G1 H1 e o Q q =>
  h G1 H1 e o _ fun v G2 H2 s2 d2 => h1 G2 H2 (e.trans s2.g) (o.step s2) _ fun G3 H3 s3 => h2 G3 H3 ((e.trans s2.g).trans s3.g) ((o.step s2).step s3) _ fun G4 H4 s4 => by
    obtain ⟨a, vs, rfl, q1, q2⟩ := d2
    have s := (s2.trans s3).trans s4
    have g := s3.g.trans s4.g
    exact ⟨a, vs, rfl, SqL.of (s4.h _ _ (s3.h _ _ (s2.i _ _ q1))), fun p hp => q p _ G4 H4 s hp (Paired.cut (Paired.imp (fun _ _ z => Den.mono g z) q2) lo hi)⟩
theorem el_slo {α : Type} [Den α] {j : Nat} {tl th : TO} {l : Addr} {vs : List V} {xs : List α} {lo hi : Option Int} (hs : σ[j]? = some (some (.ref l))) (hl : (l, vs) ∈ L) (hx : Paired (Den.D G) vs xs) (h1 : EvO tl σ G L lo) (h2 : EvO th σ G L hi) : EvL (tSl (rSlL K) (tVar j) tl th) σ G L (cutA xs lo hi) := fun G1 H1 e o Q q =>
  ⟨_, hs, h1 G1 H1 e o _ fun G3 H3 s3 => h2 G3 H3 (e.trans s3.g) (o.step s3) _ fun G4 H4 s4 => by
    have s := s3.trans s4
    exact ⟨l, vs, rfl, SqL.of ((o.step s).l _ hl).2, fun p hp => q p _ G4 H4 s hp (Paired.cut (Paired.imp (fun _ _ z => Den.mono (e.trans s.g) z) hx) lo hi)⟩⟩
theorem cut_hi {α : Type} (xs : List α) (n : Nat) : cutA xs none (some (n : Int)) = xs.take n := by
  unfold cutA HT.sIx
  simp only [List.drop_zero, Nat.sub_zero]
  rw [if_neg (by omega)]
  have e : ((n : Int)).toNat = n := by simp
  rw [e]
  by_cases h : n ≤ xs.length
  · rw [Nat.min_eq_left h]
  · rw [Nat.min_eq_right (by omega), List.take_of_length_le (Nat.le_refl _), List.take_of_length_le (by omega)]
theorem cut_lo {α : Type} (xs : List α) (n : Nat) (h : n ≤ xs.length) : cutA xs (some (n : Int)) none = xs.drop n := by
  unfold cutA HT.sIx
  simp only
  rw [if_neg (by omega)]
  have e : min ((n : Int)).toNat xs.length = n := by simp; omega
  rw [e]
  exact List.take_of_length_le (by simp)
/-! pairs -/
theorem ev_tup {α β : Type} [Den α] [Den β] {ta tb : TE} {x : α} {y : β} (ha : Ev ta σ G L x) (hb : Ev tb σ G L y) : Ev (tTup (tCons ta (tCons tb tNil))) σ G L (x, y) := fun G1 H1 e o Q q =>
  ha G1 H1 e o _ fun v G2 H2 s2 d2 => hb G2 H2 (e.trans s2.g) (o.step s2) _ fun w G3 H3 s3 d3 =>
    ⟨by show 2 ≤ sizeLine; decide, fun p hp => q _ _ _ ((s2.trans s3).trans (Step.new s3.i hp)) ⟨p, v, w, rfl, upd_same, Den.mono (s3.g.trans (same_new (s3.i.free hp))) d2, Den.mono (same_new (s3.i.free hp)) d3⟩⟩
/-! tests -/
theorem et_test {te : TE} {b : Bool} (h : Ev te σ G L b) : EvT (tTest te) σ G L b := fun G1 H1 e o Q q => h G1 H1 e o _ fun v G2 H2 s2 d2 => ⟨b, d2, q G2 H2 s2⟩
theorem et_B {te : TE} {b : Bool} (h : Ev te σ G L b) : EvT (tB te) σ G L b := fun G1 H1 e o Q q => h G1 H1 e o _ fun v G2 H2 s2 d2 => ⟨b, d2, q G2 H2 s2⟩
theorem et_and {t u : TT} {a b : Bool} (h1 : EvT t σ G L a) (h2 : a = true → EvT u σ G L b) : EvT (tAnd t u) σ G L (a && b) := fun G1 H1 e o Q q => h1 G1 H1 e o _ fun G2 H2 s2 => by
  cases a with
  | true => show u σ H2 Q; exact h2 rfl G2 H2 (e.trans s2.g) (o.step s2) Q fun G3 H3 s3 => q G3 H3 (s2.trans s3)
  | false => show Q false H2; exact q G2 H2 s2
theorem et_or {t u : TT} {a b : Bool} (h1 : EvT t σ G L a) (h2 : a = false → EvT u σ G L b) : EvT (tOr t u) σ G L (a || b) := fun G1 H1 e o Q q => h1 G1 H1 e o _ fun G2 H2 s2 => by
  cases a with
  | true => show Q true H2; exact q G2 H2 s2
  | false => show u σ H2 Q; exact h2 rfl G2 H2 (e.trans s2.g) (o.step s2) Q fun G3 H3 s3 => q G3 H3 (s2.trans s3)
theorem et_not {t : TT} {a : Bool} (h1 : EvT t σ G L a) : EvT (tNot t) σ G L (!a) := fun G1 H1 e o Q q => h1 G1 H1 e o _ fun G2 H2 s2 => q G2 H2 s2
theorem et_c {b : Bool} : EvT (tB (tC (.bl b))) σ G L b := et_B ev_bl
theorem ev_if {α : Type} [Den α] {t : TT} {ta tb : TE} {b : Bool} {x : α} (h : EvT t σ G L b) (h1 : b = true → Ev ta σ G L x) (h2 : b = false → Ev tb σ G L x) : Ev (tIf t ta tb) σ G L x := fun G1 H1 e o Q q => h G1 H1 e o _ fun G2 H2 s2 => by
  cases b with
  | true => show ta σ H2 Q; exact h1 rfl G2 H2 (e.trans s2.g) (o.step s2) Q fun v G3 H3 s3 d3 => q v G3 H3 (s2.trans s3) d3
  | false => show tb σ H2 Q; exact h2 rfl G2 H2 (e.trans s2.g) (o.step s2) Q fun v G3 H3 s3 d3 => q v G3 H3 (s2.trans s3) d3
theorem ev_andV {ta tb : TE} {a b : Bool} (h1 : Ev ta σ G L a) (h2 : a = true → Ev tb σ G L b) : Ev (tAndV ta tb) σ G L (a && b) := fun G1 H1 e o Q q => h1 G1 H1 e o _ fun v G2 H2 s2 d2 => ⟨a, d2, by
  cases a with
  | true => show tb σ H2 Q; exact h2 rfl G2 H2 (e.trans s2.g) (o.step s2) Q fun v G3 H3 s3 d3 => q v G3 H3 (s2.trans s3) d3
  | false => show Q (.bl false) H2; exact q _ G2 H2 s2 rfl⟩
theorem ev_orV {ta tb : TE} {a b : Bool} (h1 : Ev ta σ G L a) (h2 : a = false → Ev tb σ G L b) : Ev (tOrV ta tb) σ G L (a || b) := fun G1 H1 e o Q q => h1 G1 H1 e o _ fun v G2 H2 s2 d2 => ⟨a, d2, by
  cases a with
  | true => show Q (.bl true) H2; exact q _ G2 H2 s2 rfl
  | false => show tb σ H2 Q; exact h2 rfl G2 H2 (e.trans s2.g) (o.step s2) Q fun v G3 H3 s3 d3 => q v G3 H3 (s2.trans s3) d3⟩
theorem ev_notV {ta : TE} {a : Bool} (h1 : Ev ta σ G L a) : Ev (tNotV ta) σ G L (!a) := fun G1 H1 e o Q q => h1 G1 H1 e o _ fun v G2 H2 s2 d2 => ⟨a, d2, q _ G2 H2 s2 rfl⟩
theorem isN_of {α : Type} [Den α] {G H : Hp} {v : V} {x : Option α} (d : Den.D H v x) (hn : ∀ y : α, ¬ Den.D H V.non y) : decide (v = .non) = x.isNone := by
  cases x with
  | none => have : v = .non := d
            rw [this]; rfl
  | some y => simp only [Option.isNone_some]
              exact decide_eq_false fun e => by rw [e] at d; exact hn y d
theorem ev_isN {α : Type} [Den α] {ta : TE} {x : Option α} (h : Ev ta σ G L x) (hn : ∀ (H : Hp) (y : α), ¬ Den.D H V.non y) : Ev (tOp (fun x y H Q => y = .non ∧ Q (.bl (decide (x = .non))) H) ta (tC .non)) σ G L x.isNone := fun G1 H1 e o Q q =>
  h G1 H1 e o _ fun v G2 H2 s2 d2 => ⟨rfl, q _ G2 H2 s2 (by show V.bl _ = V.bl _; rw [isN_of (G := G2) d2 (hn G2)])⟩
theorem ev_notN {α : Type} [Den α] {ta : TE} {x : Option α} (h : Ev ta σ G L x) (hn : ∀ (H : Hp) (y : α), ¬ Den.D H V.non y) : Ev (tOp (fun x y H Q => y = .non ∧ Q (.bl (!decide (x = .non))) H) ta (tC .non)) σ G L (!x.isNone) := fun G1 H1 e o Q q =>
  h G1 H1 e o _ fun v G2 H2 s2 d2 => ⟨rfl, q _ G2 H2 s2 (by show V.bl _ = V.bl _; rw [isN_of (G := G2) d2 (hn G2)])⟩
end
/-! ### statements -/
section
variable {K : PySem.W.Frag} {σ : L2.St} {G0 H0 G H : Hp} {L : Ls} {D' : Ends}
theorem st_seq {t u : TS} (h : t { D' with nx := u D' } σ H) : tSeq t u D' σ H := h
theorem st_set {α : Type} [Den α] {te : TE} {i : Nat} {x : α} (F : Fr G0 H0 G L H) (h : Ev te σ G L x) (q : ∀ v G2 H2, Fr G0 H0 G2 L H2 → Same G G2 → Den.D G2 v x → D'.nx (σ.set i (some v)) H2) : tAsg te (gName i) D' σ H :=
  h G H (Same.refl _) F.o _ fun v G2 H2 s d => q v G2 H2 (F.step s) s.g d
theorem st_setL {α : Type} [Den α] {te : TE} {i : Nat} {xs : List α} (F : Fr G0 H0 G L H) (h : EvL te σ G L xs) (q : ∀ l vs G2 H2, Fr G0 H0 G2 ((l, vs) :: L) H2 → Same G G2 → Paired (Den.D G2) vs xs → D'.nx (σ.set i (some (.ref l))) H2) : tAsg te (gName i) D' σ H :=
  h G H (Same.refl _) F.o _ fun l vs G2 H2 s hl d => q l vs G2 _ ((F.step s).new hl) s.g d
theorem st_setI {te : TE} {i : Nat} {x : Int} (F : Fr G0 H0 G L H) (h : Ev te σ G L x) (q : ∀ G2 H2, Fr G0 H0 G2 L H2 → Same G G2 → D'.nx (σ.set i (some (.int x))) H2) : tAsg te (gName i) D' σ H :=
  st_set F h fun v G2 H2 F2 e d => by have d : v = V.int x := d; rw [d]; exact q G2 H2 F2 e
theorem st_setLI {te : TE} {i : Nat} {xs : List Int} (F : Fr G0 H0 G L H) (h : EvL te σ G L xs) (q : ∀ l G2 H2, Fr G0 H0 G2 ((l, xs.map V.int) :: L) H2 → Same G G2 → D'.nx (σ.set i (some (.ref l))) H2) : tAsg te (gName i) D' σ H :=
  st_setL F h fun l vs G2 H2 F2 e d => by rw [d_ints.mp d] at F2; exact q l G2 H2 F2 e
theorem st_if {c : TT} {t u : TS} {b : Bool} (F : Fr G0 H0 G L H) (h : EvT c σ G L b) (h1 : b = true → ∀ G2 H2, Fr G0 H0 G2 L H2 → Same G G2 → t D' σ H2) (h2 : b = false → ∀ G2 H2, Fr G0 H0 G2 L H2 → Same G G2 → u D' σ H2) : tIfS c t u D' σ H :=
  h G H (Same.refl _) F.o _ fun G2 H2 s => by
    cases b with
    | true => show t D' σ H2; exact h1 rfl G2 H2 (F.step s) s.g
    | false => show u D' σ H2; exact h2 rfl G2 H2 (F.step s) s.g
theorem st_drop {α : Type} [Den α] {te : TE} {x : α} (F : Fr G0 H0 G L H) (h : Ev te σ G L x) (q : ∀ G2 H2, Fr G0 H0 G2 L H2 → Same G G2 → D'.nx σ H2) : tDrop te D' σ H :=
  h G H (Same.refl _) F.o _ fun v G2 H2 s d => q G2 H2 (F.step s) s.g
theorem st_ret {α : Type} [Den α] {te : TE} {x : α} (F : Fr G0 H0 G L H) (h : Ev te σ G L x) (q : ∀ v G2 H2, Step G0 H0 G2 H2 → Den.D G2 v x → D'.rt v H2) : tRet te D' σ H :=
  h G H (Same.refl _) F.o _ fun v G2 H2 s d => q v G2 H2 (F.step s).s d
/-- an own list handed back -/
theorem st_reto {α : Type} [Den α] {i : Nat} {l : Addr} {vs : List V} {xs : List α} (F : Fr G0 H0 G ((l, vs) :: L) H) (hs : σ[i]? = some (some (.ref l))) (hx : Paired (Den.D G) vs xs) (q : ∀ v G2 H2, Step G0 H0 G2 H2 → Den.D G2 v xs → D'.rt v H2) : tRet (tVar i) D' σ H := by
  obtain ⟨G', F', e, d⟩ := F.frozen hx
  exact ⟨_, hs, q _ G' H F'.s d⟩
/-- xs[i] = e, an own list -/
theorem st_setIx {α : Type} [Den α] {te ti : TE} {j : Nat} {l : Addr} {vs : List V} {i : Int} {k : Nat} {x : α} (F : Fr G0 H0 G ((l, vs) :: L) H) (hs : σ[j]? = some (some (.ref l))) (h : Ev te σ G ((l, vs) :: L) x) (hi : Ev ti σ G ((l, vs) :: L) i) (hk : i = (k : Int)) (hl : k < vs.length)
    (q : ∀ v G2 H2, Fr G0 H0 G2 ((l, vs.set k v) :: L) H2 → Same G G2 → Den.D G2 v x → D'.nx σ H2) : tAsg te (gSub (tVar j) ti rSetL) D' σ H :=
  h G H (Same.refl _) F.o _ fun v G2 H2 s2 d2 => ⟨_, hs, hi G2 H2 s2.g (F.o.step s2) _ fun w G3 H3 s3 d3 => by
    have F3 := (F.step s2).step s3
    refine ⟨l, vs, i, k, rfl, d3, (F3.o.l _ List.mem_cons_self).2, ?_, q v G3 _ F3.upd (s2.g.trans s3.g) (Den.mono s3.g d2)⟩
    unfold ixN
    rw [hk, if_pos (by omega), if_pos (by omega)]; simp⟩
/-- xs.append(e), an own list -/
theorem st_app {α : Type} [Den α] {te : TE} {j : Nat} {l : Addr} {vs : List V} {x : α} (F : Fr G0 H0 G ((l, vs) :: L) H) (hs : σ[j]? = some (some (.ref l))) (h : Ev te σ G ((l, vs) :: L) x) (hl : vs.length < 100000)
    (q : ∀ v G2 H2, Fr G0 H0 G2 ((l, vs ++ [v]) :: L) H2 → Same G G2 → Den.D G2 v x → D'.nx σ H2) : tDrop (tBM K "list" rAppend (tVar j) (tCons te tNil)) D' σ H :=
  ⟨_, hs, .inl ⟨rfl, _, SqL.of (F.o.l _ List.mem_cons_self).2⟩, h G H (Same.refl _) F.o _ fun v G2 H2 s2 d2 =>
    ⟨l, vs, v, rfl, rfl, ((F.o.step s2).l _ List.mem_cons_self).2, Nat.lt_of_lt_of_le hl (by decide), q v G2 _ (F.step s2).upd s2.g d2⟩⟩
end
end Bw
set_option Elab.async false
set_option linter.all false
set_option maxRecDepth 100000
set_option maxHeartbeats 4000000
namespace Bw
open PySem L2
section
variable {K : PySem.W.Frag} {σ : L2.St} {G0 H0 G H : Hp} {L : Ls} {D' : Ends} {tb : TS}
/-! ### loops -/
theorem st_for1 {ta : TA} {k : Nat} {n : Int} (F : Fr G0 H0 G L H) (h : EvA ta σ G L (n, ())) (hn : n ≤ 1000000) (h0n : -1000000 ≤ n) (Pv : Nat → L2.St → Hp → Prop)
    (h0 : ∀ G2 H2, Fr G0 H0 G2 L H2 → Same G G2 → Pv 0 σ H2) (hs : ∀ i σ H, i < n.toNat → Pv i σ H → tb { D' with nx := Pv (i + 1), ct := Pv (i + 1), bk := D'.nx } (σ.set k (some (.int i))) H) (hd : ∀ σ H, Pv n.toNat σ H → D'.nx σ H) :
    tFor (iRng1 ta) (gName k) tb D' σ H :=
  h G H (Same.refl _) F.o _ fun vs G2 H2 s2 d2 => by
    obtain ⟨v, r, rfl, d, rfl⟩ := d2
    obtain rfl : v = V.int n := d
    refine ⟨n, rfl, by omega, by omega, for_range (lo := 0) (n := n.toNat) Pv (h0 G2 H2 (F.step s2) s2.g) (fun i σ H hi p => ?_) hd⟩
    rw [Int.zero_add]; exact hs i σ H hi p
theorem st_for2 {ta : TA} {k : Nat} {lo hi : Int} (F : Fr G0 H0 G L H) (h : EvA ta σ G L (lo, hi, ())) (hn : hi ≤ 1000000) (h0n : -1000000 ≤ lo) (hlo : lo ≤ 1000000) (hhi : -1000000 ≤ hi) (Pv : Nat → L2.St → Hp → Prop)
    (h0 : ∀ G2 H2, Fr G0 H0 G2 L H2 → Same G G2 → Pv 0 σ H2) (hs : ∀ i σ H, i < (hi - lo).toNat → Pv i σ H → tb { D' with nx := Pv (i + 1), ct := Pv (i + 1), bk := D'.nx } (σ.set k (some (.int (lo + i)))) H) (hd : ∀ σ H, Pv (hi - lo).toNat σ H → D'.nx σ H) :
    tFor (iRng2 ta) (gName k) tb D' σ H :=
  h G H (Same.refl _) F.o _ fun vs G2 H2 s2 d2 => by
    obtain ⟨v, r, rfl, d, w, r', rfl, d', rfl⟩ := d2
    obtain rfl : v = V.int lo := d
    obtain rfl : w = V.int hi := d'
    exact ⟨lo, hi, rfl, by omega, for_range (lo := lo) (n := (hi - lo).toNat) Pv (h0 G2 H2 (F.step s2) s2.g) hs hd⟩
/-- for k in range(a, -1, -1) -/
theorem st_for3 {ta : TA} {k : Nat} {m : Nat} (F : Fr G0 H0 G L H) (h : EvA ta σ G L (((m : Int) - 1), ((-1 : Int)), ((-1 : Int)), ())) (hn : m ≤ 1000000) (Pv : Nat → L2.St → Hp → Prop)
    (h0 : ∀ G2 H2, Fr G0 H0 G2 L H2 → Same G G2 → Pv 0 σ H2) (hs : ∀ i σ H, i < m → Pv i σ H → tb { D' with nx := Pv (i + 1), ct := Pv (i + 1), bk := D'.nx } (σ.set k (some (.int ((m - 1 - i : Nat) : Int)))) H) (hd : ∀ σ H, Pv m σ H → D'.nx σ H) :
    tFor (iRng3 ta) (gName k) tb D' σ H :=
  h G H (Same.refl _) F.o _ fun vs G2 H2 s2 d2 => by
    obtain ⟨v, r, rfl, d, w, r', rfl, d', z, r2, rfl, d2, rfl⟩ := d2
    obtain rfl : v = V.int ((m : Int) - 1) := d
    obtain rfl : w = V.int (-1) := d'
    obtain rfl : z = V.int (-1) := d2
    have e : (((m : Int) - 1) - (-1)).toNat = m := by omega
    have q := RgC.neg (i := (m : Int) - 1) (j := -1) (by omega) (by omega) (by omega) (by omega)
    rw [e] at q
    refine ⟨(m : Int) - 1, -1, -1, m, rfl, q, for_rangeC (lo := (m : Int) - 1) (c := -1) (n := m) Pv (h0 G2 H2 (F.step s2) s2.g) (fun i σ H hi p => ?_) hd⟩
    have e2 : (m : Int) - 1 + (i : Int) * (-1) = ((m - 1 - i : Nat) : Int) := by omega
    rw [e2]; exact hs i σ H hi p
/-- for x in xs, simple form: the state is told by a frozen heap that grows -/
theorem st_forX {α : Type} [Den α] {te : TE} {g : TG} {xs : List α} (F : Fr G0 H0 G L H) (h : Ev te σ G L xs) (Pv : Hp → Nat → Hp → L2.St → Hp → Prop)
    (hP : ∀ Gs i G' σ' H', Pv Gs i G' σ' H' → Same Gs G' ∧ Same G' H')
    (h0 : ∀ G2 H2, Fr G0 H0 G2 L H2 → Same G G2 → Pv G2 0 G2 σ H2)
    (hs : ∀ Gs (i : Nat) x v G' σ H, Same G Gs → xs[i]? = some x → Den.D Gs v x → Pv Gs i G' σ H → g v σ H fun σ2 H2 => tb { D' with nx := fun σ H => ∃ G', Pv Gs (i + 1) G' σ H, ct := fun σ H => ∃ G', Pv Gs (i + 1) G' σ H, bk := D'.nx } σ2 H2)
    (hd : ∀ Gs G' σ H, Same G Gs → Pv Gs xs.length G' σ H → D'.nx σ H) : tFor (iList K te) g tb D' σ H :=
  h G H (Same.refl _) F.o _ fun v G2 H2 s2 d2 => by
    obtain ⟨a, vs, rfl, h1, h2⟩ := d2
    have F2 := F.step s2
    refine ⟨a, rfl, ⟨vs, SqL.of (s2.i _ _ h1)⟩, for_list (K := K) (a := a) (xs := vs) (fun i σ H => ∃ G', Pv G2 i G' σ H) ⟨G2, h0 G2 H2 F2 s2.g⟩ (fun i σ' H' _ ⟨G', p⟩ => SqL.of ((hP _ _ _ _ _ p).2 _ _ ((hP _ _ _ _ _ p).1 _ _ h1))) (fun i x σ' H' hx ⟨G', p⟩ => ?_) (fun σ' H' ⟨G', p⟩ => hd G2 G' σ' H' s2.g (by rw [← Paired.len h2]; exact p))⟩
    obtain ⟨y, hy, dy⟩ := Paired.at' h2 hx
    exact hs G2 i y x G' σ' H' s2.g hy dy p
/-- a, b = e, a pair -/
theorem st_unpack {α β : Type} [Den α] [Den β] {te : TE} {i j : Nat} {x : α × β} (F : Fr G0 H0 G L H) (h : Ev te σ G L x)
    (q : ∀ v w G2 H2, Fr G0 H0 G2 L H2 → Same G G2 → Den.D G2 v x.1 → Den.D G2 w x.2 → D'.nx ((σ.set i (some v)).set j (some w)) H2) : tAsg te (gTup K 2 (gCons (gName i) (gCons (gName j) gNil))) D' σ H :=
  h G H (Same.refl _) F.o _ fun v G2 H2 s2 d2 => by
    obtain ⟨a, v1, v2, rfl, h1, h2, h3⟩ := d2
    exact ⟨a, [v1, v2], rfl, SqT.of (s2.i _ _ h1), rfl, v1, [v2], rfl, v2, [], rfl, rfl, q v1 v2 G2 H2 (F.step s2) s2.g h2 h3⟩
/-- a while: the state is told with a number that falls -/
theorem st_while {c : TT} (Pv : Nat → L2.St → Hp → Prop) (m0 : Nat) (h0 : Pv m0 σ H)
    (hs : ∀ m σ H, Pv m σ H → ∃ (G : Hp) (L : Ls) (b : Bool), Fr G0 H0 G L H ∧ EvT c σ G L b ∧
      (b = true → ∀ G2 H2, Fr G0 H0 G2 L H2 → Same G G2 → tb { D' with nx := fun σ' H' => ∃ m', m' < m ∧ Pv m' σ' H', ct := fun σ' H' => ∃ m', m' < m ∧ Pv m' σ' H', bk := D'.nx } σ H2) ∧ (b = false → ∀ G2 H2, Fr G0 H0 G2 L H2 → Same G G2 → D'.nx σ H2)) : tWhile c tb D' σ H := by
  refine ⟨Pv, ⟨m0, h0⟩, fun m σ H p => ?_⟩
  obtain ⟨G, L, b, F, e, h1, h2⟩ := hs m σ H p
  refine e G H (Same.refl _) F.o _ fun G2 H2 s => ?_
  cases b with
  | true => exact ⟨_, fun σ' H' n => n, h1 rfl G2 H2 (F.step s) s.g⟩
  | false => exact h2 rfl G2 H2 (F.step s) s.g
/-! ### comprehensions -/
theorem but_eq {H : Hp} {D : Addr} {o : HO} (h : H D = some o) : upd (fun b => if b = D then none else H b) D o = H := by
  funext b
  unfold upd
  by_cases c : b = D
  · rw [if_pos c, c, h]
  · rw [if_neg c]
    show (if b = D then none else H b) = H b
    rw [if_neg c]
/-- how a comprehension's loop stands behind i turns: it began at G1, H1; its list at D -/
structure Lc (G1 H1 : Hp) (L : Ls) (D : Addr) {β : Type} [Den β] (ys : List β) (i : Nat) (G2 H2 : Hp) (acc : List V) : Prop where
  s : Step G1 H1 G2 (fun b => if b = D then none else H2 b)
  d : H2 D = some (.lst acc)
  p : Paired (Den.D G2) acc (ys.take i)
theorem Lc.start {G1 H1 : Hp} {L : Ls} {D : Addr} {β : Type} [Den β] {ys : List β} (o : Ok G1 L H1) (hD : H1 D = none) : Lc G1 H1 L D ys 0 G1 (upd H1 D (.lst [])) [] := by
  have e : (fun b => if b = D then none else upd H1 D (.lst []) b) = H1 := by
    funext b
    by_cases c : b = D
    · rw [if_pos c, c, hD]
    · rw [if_neg c, upd_ne c]
  exact ⟨by rw [e]; exact Step.refl o.i, upd_same, .nil⟩
theorem Lc.gh {G1 H1 G2 H2 : Hp} {L : Ls} {D : Addr} {β : Type} [Den β] {ys : List β} {i : Nat} {acc : List V} (c : Lc G1 H1 L D ys i G2 H2 acc) : Same G2 H2 := fun b o e => by
  have := c.s.i b o e
  by_cases q : b = D
  · rw [if_pos q] at this; cases this
  · rwa [if_neg q] at this
theorem Lc.gD {G1 H1 G2 H2 : Hp} {L : Ls} {D : Addr} {β : Type} [Den β] {ys : List β} {i : Nat} {acc : List V} (c : Lc G1 H1 L D ys i G2 H2 acc) : G2 D = none := c.s.i.free (by show (if D = D then none else H2 D) = none; rw [if_pos rfl])
theorem Lc.ok {G1 H1 G2 H2 : Hp} {L : Ls} {D : Addr} {β : Type} [Den β] {ys : List β} {i : Nat} {acc : List V} (c : Lc G1 H1 L D ys i G2 H2 acc) (o : Ok G1 L H1) (hD : H1 D = none) : Ok G2 ((D, acc) :: L) H2 :=
  ⟨c.gh, fun p hp => by
    rcases List.mem_cons.mp hp with rfl | hp
    · exact ⟨c.gD, c.d⟩
    · have := (o.step c.s).l p hp
      refine ⟨this.1, ?_⟩
      have h2 := this.2
      by_cases q : p.1 = D
      · rw [if_pos q] at h2; cases h2
      · rwa [if_neg q] at h2⟩
/-- one turn: from G2, H2 to G3, H3 (the list at D as it was), then the item is put on -/
theorem Lc.turn {G1 H1 G2 H2 G3 H3 : Hp} {L : Ls} {D : Addr} {β : Type} [Den β] {ys : List β} {i : Nat} {acc : List V} {y : β} {v : V} (c : Lc G1 H1 L D ys i G2 H2 acc) (hD : H1 D = none) (s : Step G2 H2 G3 H3) (hy : ys[i]? = some y) (d : Den.D G3 v y) :
    H3 D = some (.lst acc) ∧ Lc G1 H1 L D ys (i + 1) G3 (upd H3 D (.lst (acc ++ [v]))) (acc ++ [v]) := by
  have hd : H3 D = some (.lst acc) := s.h _ _ c.d
  have hg : G3 D = none := s.d D c.gD (by rw [c.d]; simp)
  refine ⟨hd, ?_, upd_same, ?_⟩
  · have e : (fun b => if b = D then none else upd H3 D (.lst (acc ++ [v])) b) = fun b => if b = D then none else H3 b := by
      funext b
      by_cases q : b = D
      · rw [if_pos q, if_pos q]
      · rw [if_neg q, if_neg q, upd_ne q]
    rw [e]
    refine ⟨c.s.g.trans s.g, fun b o q => ?_, fun b o q => ?_, fun b h1 h2 => ?_⟩
    · have hb : b ≠ D := fun z => by rw [z, hg] at q; cases q
      rw [if_neg hb]; exact s.i _ _ q
    · have hb : b ≠ D := fun z => by rw [z, hD] at q; cases q
      rw [if_neg hb]
      have := c.s.h _ _ q
      rw [if_neg hb] at this
      exact s.h _ _ this
    · have hb : b ≠ D := fun z => by rw [z] at h2; exact h2 hD
      refine s.d b (c.s.d b h1 h2) ?_
      have := not_none c.s.h h2
      rwa [if_neg hb] at this
  · have e : ys.take (i + 1) = ys.take i ++ [y] := by rw [List.take_add_one, hy]; rfl
    rw [e]
    exact Paired.app (Paired.imp (fun _ _ z => Den.mono s.g z) c.p) (.cons d .nil)
theorem Lc.fin {G1 H1 G2 H2 : Hp} {L : Ls} {D : Addr} {β : Type} [Den β] {ys : List β} {n : Nat} {acc : List V} (c : Lc G1 H1 L D ys n G2 H2 acc) (hn : ys.length ≤ n) {Q : VK}
    (q : ∀ l vs G2 H2, Step G1 H1 G2 H2 → H2 l = none → Paired (Den.D G2) vs ys → Q (.ref l) (upd H2 l (.lst vs))) : Q (.ref D) H2 := by
  have := q D acc G2 _ c.s (if_pos rfl) (by have := c.p; rwa [List.take_of_length_le hn] at this)
  rwa [but_eq c.d] at this
theorem tYes_ {σ : L2.St} {H : Hp} {Q : Bool → Hp → Prop} (h : Q true H) : tYes σ H Q := h
theorem Ev.more {α : Type} [Den α] {te : TE} {x : α} {L' : Ls} (h : Ev te σ G L x) (hL : ∀ p ∈ L, p ∈ L') : Ev te σ G L' x := fun G1 H1 e o Q q => h G1 H1 e (o.mono hL) Q q
/-- what a target does with a value, and what the element then comes to -/
def Tn {α β : Type} [Den α] [Den β] (g : TG) (own : List Nat) (te : TE) (σ : L2.St) (G : Hp) (L : Ls) (v : V) (y : β) : Prop :=
  ∃ σ', wipe σ' own = wipe σ own ∧ (∀ H' Q, Same G H' → Q σ' H' → g v (wipe σ own) H' Q) ∧ Ev te σ' G L y
/-- over a list -/
theorem el_lc {α β : Type} [Den α] [Den β] {ts te : TE} {g : TG} {own : List Nat} {xs : List α} {ys : List β} (hsrc : Ev ts σ G L xs) (hlen : ys.length = xs.length) (hz : xs.length ≤ 10000)
    (helt : ∀ (i : Nat) x y v G', Same G G' → xs[i]? = some x → ys[i]? = some y → Den.D G' v x → Tn (α := α) g own te σ G' L v y) : EvL (tLc (iList K ts) g tYes te own) σ G L ys := fun G1 H1 e o Q q =>
  hsrc G1 H1 e o _ fun v G2 H2 s2 d2 => by
    obtain ⟨a, vs, rfl, h1, h2⟩ := d2
    have hl := Paired.len h2
    refine ⟨a, rfl, ⟨vs, SqL.of (s2.i _ _ h1)⟩, fun D hD => lc_list (K := K) (a := a) (xs := vs) (fun i H' => ∃ G' acc, Lc G2 H2 L D ys i G' H' acc) ⟨G2, [], Lc.start (o.step s2) hD⟩ (fun i H' _ ⟨G', acc, c⟩ => SqL.of (c.gh _ _ (c.s.g _ _ h1))) (fun i x H' hx ⟨G', acc, c⟩ => ?_) (fun H' ⟨G', acc, c⟩ => ?_)⟩
    · obtain ⟨x', hx', dx⟩ := Paired.at' h2 hx
      have hi : i < ys.length := by rw [hlen]; exact (List.getElem?_eq_some_iff.mp hx').1
      obtain ⟨σ', w1, w2, w3⟩ := helt i x' ys[i] x G' ((e.trans s2.g).trans c.s.g) hx' (List.getElem?_eq_getElem hi) (Den.mono c.s.g dx)
      refine w2 H' _ c.gh ⟨w1, tYes_ ?_⟩
      show te σ' H' _
      refine w3 G' H' (Same.refl _) ((c.ok (o.step s2) hD).mono fun p hp => List.mem_cons_of_mem _ hp) _ fun u G3 H3 s3 d3 => ?_
      obtain ⟨t1, t2⟩ := c.turn hD s3 (List.getElem?_eq_getElem hi) d3
      refine ⟨acc, t1, ?_, G3, _, t2⟩
      rw [Paired.len c.p, List.length_take]
      have hzz : (10000 : Nat) < sizeLine := by decide
      omega
    · exact c.fin (by omega) fun l ws G3 H3 s3 h3 p3 => q l ws G3 H3 (s2.trans s3) h3 p3
/-- over range(n) -/
theorem el_lcR {β : Type} [Den β] {ta : TA} {te : TE} {k : Nat} {own : List Nat} {n : Int} {ys : List β} (hsrc : EvA ta σ G L (n, ())) (hlen : ys.length = n.toNat) (hz : n ≤ 10000) (hz0 : -10000 ≤ n)
    (hw : ∀ v, wipe ((wipe σ own).set k (some v)) own = wipe σ own) (helt : ∀ (i : Nat) y G', Same G G' → ys[i]? = some y → Ev te ((wipe σ own).set k (some (.int i))) G' L y) : EvL (tLc (iRng1 ta) (gName k) tYes te own) σ G L ys := fun G1 H1 e o Q q =>
  hsrc G1 H1 e o _ fun vs G2 H2 s2 d2 => by
    obtain ⟨v, r, rfl, d, rfl⟩ := d2
    obtain rfl : v = V.int n := d
    refine ⟨n, rfl, by omega, by omega, fun D hD => lc_range (lo := 0) (n := n.toNat) (fun i H' => ∃ G' acc, Lc G2 H2 L D ys i G' H' acc) ⟨G2, [], Lc.start (o.step s2) hD⟩ (fun i H' hx ⟨G', acc, c⟩ => ?_) (fun H' ⟨G', acc, c⟩ => ?_)⟩
    · have hi : i < ys.length := by rw [hlen]; exact hx
      rw [Int.zero_add]
      refine ⟨hw _, tYes_ ?_⟩
      show te _ H' _
      refine helt i ys[i] G' ((e.trans s2.g).trans c.s.g) (List.getElem?_eq_getElem hi) G' H' (Same.refl _) ((c.ok (o.step s2) hD).mono fun p hp => List.mem_cons_of_mem _ hp) _ fun u G3 H3 s3 d3 => ?_
      obtain ⟨t1, t2⟩ := c.turn hD s3 (List.getElem?_eq_getElem hi) d3
      refine ⟨acc, t1, ?_, G3, _, t2⟩
      rw [Paired.len c.p, List.length_take]
      have hzz : (10000 : Nat) < sizeLine := by decide
      omega
    · exact c.fin (by omega) fun l ws G3 H3 s3 h3 p3 => q l ws G3 H3 (s2.trans s3) h3 p3
/-- over range(a, b) -/
theorem el_lcR2 {β : Type} [Den β] {ta : TA} {te : TE} {k : Nat} {own : List Nat} {lo hi : Int} {ys : List β} (hsrc : EvA ta σ G L (lo, hi, ())) (hlen : ys.length = (hi - lo).toNat) (hz : hi ≤ 5000) (hz0 : -5000 ≤ lo) (hz1 : lo ≤ 5000) (hz2 : -5000 ≤ hi)
    (hw : ∀ v, wipe ((wipe σ own).set k (some v)) own = wipe σ own) (helt : ∀ (i : Nat) y G', Same G G' → ys[i]? = some y → Ev te ((wipe σ own).set k (some (.int (lo + i)))) G' L y) : EvL (tLc (iRng2 ta) (gName k) tYes te own) σ G L ys := fun G1 H1 e o Q q =>
  hsrc G1 H1 e o _ fun vs G2 H2 s2 d2 => by
    obtain ⟨v, r, rfl, d, w, r', rfl, d', rfl⟩ := d2
    obtain rfl : v = V.int lo := d
    obtain rfl : w = V.int hi := d'
    refine ⟨lo, hi, rfl, by omega, fun D hD => lc_range (lo := lo) (n := (hi - lo).toNat) (fun i H' => ∃ G' acc, Lc G2 H2 L D ys i G' H' acc) ⟨G2, [], Lc.start (o.step s2) hD⟩ (fun i H' hx ⟨G', acc, c⟩ => ?_) (fun H' ⟨G', acc, c⟩ => ?_)⟩
    · have hi : i < ys.length := by rw [hlen]; exact hx
      refine ⟨hw _, tYes_ ?_⟩
      show te _ H' _
      refine helt i ys[i] G' ((e.trans s2.g).trans c.s.g) (List.getElem?_eq_getElem hi) G' H' (Same.refl _) ((c.ok (o.step s2) hD).mono fun p hp => List.mem_cons_of_mem _ hp) _ fun u G3 H3 s3 d3 => ?_
      obtain ⟨t1, t2⟩ := c.turn hD s3 (List.getElem?_eq_getElem hi) d3
      refine ⟨acc, t1, ?_, G3, _, t2⟩
      rw [Paired.len c.p, List.length_take]
      have hzz : (10000 : Nat) < sizeLine := by decide
      omega
    · exact c.fin (by omega) fun l ws G3 H3 s3 h3 p3 => q l ws G3 H3 (s2.trans s3) h3 p3
/-- over zip(xs, ys), both of one length -/
theorem el_lcZ {α β γ : Type} [Den α] [Den β] [Den γ] {ta : TA} {te : TE} {i1 i2 : Nat} {own : List Nat} {xs : List α} {zs : List β} {ys : List γ} (hsrc : EvA ta σ G L (xs, zs, ())) (hl2 : zs.length = xs.length) (hlen : ys.length = xs.length) (hz : xs.length ≤ 10000)
    (hw : ∀ v w, wipe (((wipe σ own).set i1 (some v)).set i2 (some w)) own = wipe σ own)
    (helt : ∀ (i : Nat) x z y v w G', Same G G' → xs[i]? = some x → zs[i]? = some z → ys[i]? = some y → Den.D G' v x → Den.D G' w z → Ev te (((wipe σ own).set i1 (some v)).set i2 (some w)) G' L y) :
    EvL (tLc (iZip K ta) (gTup K 2 (gCons (gName i1) (gCons (gName i2) gNil))) tYes te own) σ G L ys := fun G1 H1 e o Q q =>
  hsrc G1 H1 e o _ fun vs G2 H2 s2 d2 => by
    obtain ⟨_, _, rfl, ⟨a, vs, rfl, h1, h2⟩, _, _, rfl, ⟨b, ws, rfl, h3, h4⟩, rfl⟩ := d2
    have hl := Paired.len h2
    have hl' := Paired.len h4
    dsimp only at hl hl'
    refine ⟨a, b, vs, ws, rfl, SqL.of (s2.i _ _ h1), SqL.of (s2.i _ _ h3), fun D hD => lc_it (walk_zip (K := K) (a := a) (b := b) (xs := vs) (ys := ws) (n := xs.length) (by omega)) (fun i H' => ∃ G' acc, Lc G2 H2 L D ys i G' H' acc) ⟨G2, [], Lc.start (o.step s2) hD⟩
      (fun i H' _ ⟨G', acc, c⟩ => ⟨SqL.of (c.gh _ _ (c.s.g _ _ h1)), SqL.of (c.gh _ _ (c.s.g _ _ h3))⟩) (fun i x H' H'' hx ⟨G', acc, c⟩ hY => ?_) (fun H' ⟨G', acc, c⟩ => ?_)⟩
    · obtain ⟨T, v, w, rfl, hT, rfl, hv, hw'⟩ := hY
      obtain ⟨x', hx', dx⟩ := Paired.at' h2 hv
      obtain ⟨z', hz', dz⟩ := Paired.at' h4 hw'
      have hi : i < ys.length := by rw [hlen]; exact hx
      have sT : Step G' H' (upd G' T (.tup [v, w])) (upd H' T (.tup [v, w])) := Step.new c.gh hT
      refine ⟨T, [v, w], rfl, SqT.of upd_same, rfl, v, [w], rfl, w, [], rfl, rfl, hw _ _, tYes_ ?_⟩
      show te _ _ _
      refine helt i x' z' ys[i] v w _ (((e.trans s2.g).trans c.s.g).trans sT.g) hx' hz' (List.getElem?_eq_getElem hi) (Den.mono (c.s.g.trans sT.g) dx) (Den.mono (c.s.g.trans sT.g) dz) _ _ (Same.refl _) (((c.ok (o.step s2) hD).mono fun p hp => List.mem_cons_of_mem _ hp).step sT) _ fun u G3 H3 s3 d3 => ?_
      obtain ⟨t1, t2⟩ := c.turn hD (sT.trans s3) (List.getElem?_eq_getElem hi) d3
      refine ⟨acc, t1, ?_, G3, _, t2⟩
      rw [Paired.len c.p, List.length_take]
      have hzz : (10000 : Nat) < sizeLine := by decide
      omega
    · exact c.fin (by omega) fun l ws G3 H3 s3 h3 p3 => q l ws G3 H3 (s2.trans s3) h3 p3
/-- the target is one name -/
theorem tn_name {α β : Type} [Den α] [Den β] {te : TE} {k : Nat} {own : List Nat} {v : V} {y : β} (hw : wipe ((wipe σ own).set k (some v)) own = wipe σ own) (h : Ev te ((wipe σ own).set k (some v)) G L y) : Tn (α := α) (gName k) own te σ G L v y :=
  ⟨_, hw, fun _ _ _ q => q, h⟩
/-- .. a pair of names -/
theorem tn_pair {α β γ : Type} [Den α] [Den β] [Den γ] {te : TE} {i1 i2 : Nat} {own : List Nat} {v : V} {x : α × β} {y : γ} (d : Den.D G v x) (hw : ∀ v w, wipe (((wipe σ own).set i1 (some v)).set i2 (some w)) own = wipe σ own)
    (h : ∀ v w, Den.D G v x.1 → Den.D G w x.2 → Ev te (((wipe σ own).set i1 (some v)).set i2 (some w)) G L y) : Tn (α := α × β) (gTup K 2 (gCons (gName i1) (gCons (gName i2) gNil))) own te σ G L v y := by
  obtain ⟨a, v1, v2, rfl, h1, h2, h3⟩ := d
  exact ⟨_, hw v1 v2, fun H' Q s q => ⟨a, [v1, v2], rfl, SqT.of (s _ _ h1), rfl, v1, [v2], rfl, v2, [], rfl, rfl, q⟩, h v1 v2 h2 h3⟩
/-- a comprehension whose list is changed no more -/
theorem ev_lc {β : Type} [Den β] {te : TE} {ys : List β} (h : EvL te σ G L ys) : Ev te σ G L ys := h.ev
end
/-- items of mapped lists -/
theorem map_at {α β : Type} {xs : List α} {f : α → β} {i : Nat} {x : α} {y : β} (h : xs[i]? = some x) (h2 : (xs.map f)[i]? = some y) : y = f x := by
  rw [List.getElem?_map, h] at h2; exact (Option.some.inj h2).symm
theorem range_at {β : Type} {n : Nat} {f : Nat → β} {i : Nat} {y : β} (h2 : ((List.range n).map f)[i]? = some y) : i < n ∧ y = f i := by
  have hi : i < n := by have := (List.getElem?_eq_some_iff.mp h2).1; simpa using this
  refine ⟨hi, ?_⟩
  rw [List.getElem?_map, List.getElem?_range hi] at h2; exact (Option.some.inj h2).symm
end Bw
set_option Elab.async false
set_option linter.all false
set_option maxRecDepth 100000
set_option maxHeartbeats 4000000
namespace Bw
open PySem L2 Bd
def top (i : Nat) : Stmt := PySem.Challenge.pw_branchdepth_k63_bases_refused.main.body.getD i (.Pass ⟨0, 0, 0, 0⟩)
/-! ### rules of our own -/
def CDivZ (_ j : Int) : Prop := j ≠ 0 ∧ j.natAbs.log2 < 9000
theorem op_fdivZ {X : Cx} : OpR X (binaryOp .FloorDiv) (rI CDivZ fun i j => .int (i.fdiv j)) := opI fun _ _ _ _ _ _ _ hc q => PyProof.Rows.floordiv_int hc.1 q (.inl (PyProof.noPylong_of_log2 hc.2))
theorem log_le {n a : Nat} (h : n ≤ 2 ^ a) : n.log2 ≤ a := by
  by_cases h0 : n = 0
  · subst h0; simp
  · have := (Nat.log2_lt h0 (k := a + 1)).mpr (by rw [Nat.pow_succ]; have := Nat.pow_pos (n := a) (show 0 < 2 by omega); omega)
    omega
theorem cmul {i j : Int} {a b : Nat} (h1 : i.natAbs ≤ 2 ^ a) (h2 : j.natAbs ≤ 2 ^ b) (h : a + b ≤ 900000) : CMulW i j := by
  have := log_le h1
  have := log_le h2
  unfold CMulW; omega
theorem cdiv {i j : Int} {a : Nat} (h0 : j ≠ 0) (h1 : j.natAbs ≤ 2 ^ a) (h : a ≤ 8999) : CDivZ i j := ⟨h0, by have := log_le h1; omega⟩
theorem cdivS {i j : Int} (h0 : j ≠ 0) (h1 : j.natAbs ≤ 1000000) : CDivZ i j := cdiv (a := 20) h0 (by omega) (by omega)
theorem fdivE {i j : Int} (h : 0 ≤ j) : i.fdiv j = i / j := Int.fdiv_eq_ediv_of_nonneg i h
theorem ev_neg {σ : L2.St} {G : Hp} {L : Ls} {ta : TE} {i : Int} (ha : Ev ta σ G L i) : Ev (tUn (rU fun i => .int (-i)) ta) σ G L (-i) := fun G1 H1 e o Q q =>
  ha G1 H1 e o _ fun v G2 H2 s2 d2 => ⟨i, d2, q _ G2 H2 s2 rfl⟩
/-- xs[i], by values, i from 0 on -/
def rGet (K : PySem.W.Frag) : R2 := fun x y H Q => ∃ p xs k v, x = .ref p ∧ y = .int ((k : Nat) : Int) ∧ SqL K H p xs ∧ xs[k]? = some v ∧ Q v H
theorem pget_list {X : Cx} : PGet X (rGet X.K) := by
  intro pins s σ H x y v u Q I rx ry h
  obtain ⟨p, xs, k, z, rfl, rfl, hq, he, q⟩ := h
  cases rx
  obtain ⟨t, rfl⟩ := ry
  obtain ⟨its, r, pl, hz⟩ := I.list hq
  obtain ⟨w, ew, rw'⟩ := r.get he
  have hl := r.length
  have hn := line63
  have hk := (List.getElem?_eq_some_iff.mp he).1
  exact wpAny_getItem_list pl.isList (by omega) (by omega) (by simpa using ew) ⟨z, H, I, rw', q⟩
/-! the rules that speak of the written part, by its name (in a comprehension's block it is the same) -/
section
variable {X : Cx} {K : PySem.W.Frag}
theorem ixL (h : X.K = K := by rfl) : IxR X (rIxL K) := h ▸ ix_list
theorem ixT (h : X.K = K := by rfl) : IxR X (rIxT K) := h ▸ ix_tup
theorem slL (h : X.K = K := by rfl) : SlR X (rSlL K) := h ▸ sl_list
theorem lenK (h : X.K = K := by rfl) : CallR X (.builtin "len") (fun xs H Q => ∃ p ys, xs = [.ref p] ∧ (SqL K H p ys ∨ SqT K H p ys) ∧ Q (.int ys.length) H) := h ▸ call_len_seq
theorem listK (h : X.K = K := by rfl) : CallR X (.type "list") (fun xs H Q => ∃ p ys, xs = [.ref p] ∧ (SqL K H p ys ∨ SqT K H p ys) ∧ ∀ l, H l = none → Q (.ref l) (upd H l (.lst ys))) := h ▸ call_list_of
theorem pe_fldK {e : Expr} {ta : TE} {f : Str} {pos : Pos} (he : PE X e ta) (hb : attributeBase e f X.env (eval e X.env) = eval e X.env) (h : X.K = K := by rfl) : PE X (.Attribute e f pos) (tFld K ta f) := h ▸ pe_fld he hb
theorem pi_listK {tg e : Expr} {te : TE} (he : PE X e te) (h : X.K = K := by rfl) : PI X tg e (iList K te) := h ▸ pi_list he
theorem pi_zipK {e e2 : Expr} {ta : TA} {p pos tpos : Pos} {elts : List Expr} {kk : Nat} (hg : Gl X "zip") (hm : X.mg "zip" = none) (ha : PA X [e, e2] ta) (h : X.K = K := by rfl)
    (hs : starEach [e, e2] X.env = (false, eval e X.env) :: starEach [e2] X.env := by rfl) (hpl : (backTo pos (starEach [e2] X.env)).any (·.1) = false := by rfl) :
    PI X (.Tuple elts kk tpos) (.Call (.Name "zip" p) [e, e2] [] pos) (iZip K ta) := h ▸ pi_zip hg hm ha hs hpl
theorem pg_tupK {es : List Expr} {k : Nat} {t : TGs} {n : Nat} {pos : Pos} (hc : X.calm = true) (hp : PGs X es t) (h : X.K = K := by rfl)
    (hn : (assignEach es X.env).length = n := by rfl) (hst : (assignEach es X.env).findIdx? (·.1) = none := by rfl) : PG X (.Tuple es k pos) (gTup K n t) := h ▸ pg_tup hc hp hn hst
end
/-- behind an if -/
theorem nxt {D' : Ends} {σ : L2.St} {H : Hp} (h : D'.nx σ H) : tNext D' σ H := h
/-- xs[i] op= e on an own list of ints -/
theorem st_augI {σ : L2.St} {G0 H0 G H : Hp} {L : Ls} {D' : Ends} {K : PySem.W.Frag} {ti te : TE} {op : Int → Int → Int} {j : Nat} {l : Addr} {ns : List Int} {i x : Int} {k : Nat} (F : Fr G0 H0 G ((l, ns.map V.int) :: L) H) (hs : σ[j]? = some (some (.ref l)))
    (hi : Ev ti σ G ((l, ns.map V.int) :: L) i) (hk : i = (k : Int)) (hl : k < ns.length) (he : Ev te σ G ((l, ns.map V.int) :: L) x)
    (q : ∀ G2 H2, Fr G0 H0 G2 ((l, (ns.set k (op (ns.getD k 0) x)).map V.int) :: L) H2 → Same G G2 → D'.nx σ H2) : tAugS (tVar j) ti te (rGet K) (ipI op) rSetL D' σ H :=
  ⟨_, hs, hi G H (Same.refl _) F.o _ fun w G2 H2 s2 d2 => by
    have F2 := F.step s2
    obtain rfl : w = V.int i := d2
    refine ⟨l, ns.map V.int, k, V.int (ns.getD k 0), rfl, by rw [hk], SqL.of (F2.o.l _ List.mem_cons_self).2, by rw [List.getElem?_map, getD_some hl]; rfl, ?_⟩
    refine he G2 H2 s2.g F2.o _ fun u G3 H3 s3 d3 => ?_
    have F3 := F2.step s3
    obtain rfl : u = V.int x := d3
    refine ⟨_, _, rfl, rfl, l, ns.map V.int, i, k, rfl, rfl, (F3.o.l _ List.mem_cons_self).2, ?_, ?_⟩
    · unfold ixN
      rw [hk, if_pos (by omega), if_pos (by rw [List.length_map]; omega)]; simp
    · have e : (ns.map V.int).set k (V.int (op (ns.getD k 0) x)) = (ns.set k (op (ns.getD k 0) x)).map V.int := by rw [List.map_set]
      rw [e]
      have F4 := F3.upd (ws := (ns.set k (op (ns.getD k 0) x)).map V.int)
      exact q G3 _ F4 (s2.g.trans s3.g)⟩
/-- any(xs) of ints -/
theorem truth_ints {prog : Program} {w : World} {A : Around} {ns : List Int} {its : List Value} (e : Vals (ns.map V.int) its) :
    PySem.TruthOf prog w A (fun i v => its.toArray[i]? = some v) (fun i => ns.getD i 0 != 0) := fun i v s Q E hv hq => by
  have hv' : its[i]? = some v := by simpa using hv
  have hlt : i < ns.length := by
    have := (List.getElem?_eq_some_iff.mp hv').1
    rw [← e.length, List.length_map] at this; exact this
  obtain ⟨u, hu, ru⟩ := e.get (i := i) (x := V.int (ns.getD i 0)) (by rw [List.getElem?_map, getD_some hlt]; rfl)
  rw [hv'] at hu
  cases hu
  obtain ⟨t, rfl⟩ := ru
  exact PyProof.Rows.truthy_int hq
theorem any_rangeI : ∀ ns : List Int, (List.range ns.length).any (fun i => ns.getD i 0 != 0) = ns.any (· ≠ 0)
  | [] => rfl
  | n :: ns => by
    rw [List.length_cons, List.range_succ_eq_map, List.any_cons, List.any_map, List.any_cons, ← any_rangeI ns]
    congr 1
    simp only [List.getD_cons_zero]
    cases h : decide (n ≠ 0) <;> simp_all
def rAnyI (K : PySem.W.Frag) : List V → Hp → VK → Prop := fun vs H Q => ∃ (a : Addr) (ns : List Int), vs = [V.ref a] ∧ SqL K H a (ns.map V.int) ∧ Q (.bl (ns.any (· ≠ 0))) H
theorem cr_anyI {X : Cx} (hc : X.calm = true) : CallR X (.builtin "any") (rAnyI X.K) := by
  intro pins s σ H vs us Q I r h
  obtain ⟨a, ns, rfl, hs, q⟩ := h
  obtain ⟨its, rv, hl, _⟩ := I.list hs
  rw [Vals.ref1 r]
  have hlen := rv.length
  refine PySem.call_any_walk (iter_any hl.isList fun s₂ e2 st hne => ?_)
  subst e2
  refine ⟨_, _, _, _, _, _, _, rfl, Walks.list (A := X.A.in1) (I.ok.hd hc) _ a hne its.toArray, st, truth_ints rv, fun h' tk hk => ?_⟩
  refine ⟨.bl _, H, I.kept fun b o eo => hk b o (fun hmem => ?_) (Heap.get?_push_of_some _ eo), ?_, q⟩
  · rcases List.mem_cons.mp hmem with e1 | hmem
    · exact absurd (e1 ▸ Heap.lt_size eo) (Nat.lt_irrefl _)
    · cases hmem
  · show Value.bool _ = Value.bool _
    rw [← any_rangeI, List.size_toArray, ← hlen, List.length_map]
theorem ev_anyI {K : PySem.W.Frag} {σ : L2.St} {G : Hp} {L : Ls} {ta : TE} {ns : List Int} (ha : Ev ta σ G L ns) : Ev (tCB (rAnyI K) (tCons ta tNil)) σ G L (ns.any (· ≠ 0)) := fun G1 H1 e o Q q =>
  ha G1 H1 e o _ fun v G2 H2 s2 d2 => by
    obtain ⟨a, vs, rfl, h1, h2⟩ := d2
    rw [d_ints.mp h2] at h1
    exact ⟨a, ns, rfl, SqL.of (s2.i _ _ h1), q _ G2 H2 s2 rfl⟩
theorem ev_unsome {α : Type} [Den α] {σ : L2.St} {G : Hp} {L : Ls} {te : TE} {x : α} (h : Ev te σ G L (some x)) : Ev te σ G L x := h
/-- what the top has written -/
structure Tx (mg : Str → Option Value) : Prop where
  b_range : mg "range" = none
  b_len : mg "len" = none
  b_list : mg "list" = none
  b_tuple : mg "tuple" = none
  b_int : mg "int" = none
  b_bool : mg "bool" = none
  b_abs : mg "abs" = none
  b_max : mg "max" = none
  b_min : mg "min" = none
  b_all : mg "all" = none
  b_any : mg "any" = none
  b_isinstance : mg "isinstance" = none
  b_zip : mg "zip" = none
  b_reversed : mg "reversed" = none
/-- a def as it stands, with its promise -/
def Df (P : Program) (w : World) (K : PySem.W.Frag) (mg : Str → Option Value) (base : Heap) (x : Str) (k : Nat) (ps : List Str) (sp : Sp) : Prop :=
  ∃ f fd, FnOk P w K mg base CX0 k f fd ps sp ∧ mg x = some (.ref f) ∧ PySem.W.keepIn K (.ref f) = true ∧ Binds K fd ps []
section
variable {P : Program} {w : World} {K : PySem.W.Frag} {mg : Str → Option Value} {base : Heap}
/-! ### power_of -/
abbrev s_power_of : Stmt := top 14
theorem sc_power_of : FnScope ["number", "many", "found", "k"] ["number", "many"] (defScope s_power_of) := ⟨rfl, rfl, rfl, by decide +kernel, rfl, by decide +kernel, by decide +kernel⟩
/-- a prime's size, an exponent's -/
def PwPre (x : Int × Int × Unit) : Prop := x.1.natAbs ≤ 47 ∧ 0 ≤ x.2.1 ∧ x.2.1 ≤ 500
abbrev sp_power_of : Sp := SpF PwPre fun x : Int × Int × Unit => pw x.1 x.2.1
theorem pow_sz {p : Int} (h : p.natAbs ≤ 47) (k : Nat) : (p ^ k).natAbs ≤ 2 ^ (6 * k) := by
  rw [Int.natAbs_pow, Nat.pow_mul]
  exact Nat.pow_le_pow_left (by omega) k
theorem ok_power_of (T : Tx mg) {f : Addr} {fd : FuncData} (F : Fun K "power_of" "power_of" s_power_of f fd) : FnOk P w K mg base CX0 1 f fd ["number", "many"] sp_power_of := by
  refine F.ok sc_power_of (fun vs H Q E h => SpF.len h) (fun cdv A outer s H vs Q E hr h => ?_)
  obtain ⟨G, ⟨p, k, _⟩, e, ⟨_, _, rfl, hp, _, _, rfl, hk, rfl⟩, ⟨h1, h2, h3⟩, q⟩ := h
  obtain rfl : _ = V.int p := hp
  obtain rfl : _ = V.int k := hk
  dsimp only at h1 h2 h3
  refine ⟨_, (pss_cons (ps_set (i := 2) sc_power_of.nd rfl (Or.inl rfl) pe_int)
      (pss_cons (ps_for PassesOwn.never rfl (pi_range1 rfl T.b_range (pa_cons (pv 1) pa_nil)) (pg_name (i := 3) sc_power_of.nd rfl (Or.inl rfl)) (pss_one (ps_set (i := 2) sc_power_of.nd rfl (Or.inl rfl) (pe_op op_mulW (pv 2) (pv 0)))))
      (pss_one (ps_ret (pv 2))))), ?_⟩
  have F0 := Fr.start e
  refine st_setI F0 ev_int fun G1 H1 F1 e1 => ?_
  refine st_for1 F1 (ea_cons (ev_var rfl rfl) ea_nil) (by omega) (by omega) (fun i σ H' => ∃ G' v, Fr G H G' [] H' ∧ σ = [some (.int p), some (.int k), some (.int (p ^ i)), v]) (fun G2 H2 F2 e2 => ⟨G2, none, F2, by rw [Int.pow_zero]; rfl⟩) ?_ ?_
  · rintro i σ H2 hi ⟨G2, v, F2, rfl⟩
    refine st_setI F2 (ev_I (ev_var rfl rfl) (ev_var rfl rfl) (cmul (pow_sz h1 i) (b := 6) (by omega) (by omega))) fun G3 H3 F3 e3 => ⟨G3, some (.int i), F3, ?_⟩
    rw [Int.pow_succ]; rfl
  · rintro σ H2 ⟨G2, v, F2, rfl⟩
    exact st_ret F2 (ev_var rfl rfl) fun v G3 H3 s3 d3 => q v G3 H3 s3 d3
/-! ### size_of_number -/
abbrev s_size_of_number : Stmt := top 15
theorem sc_size_of_number : FnScope ["number", "p", "found"] ["number", "p"] (defScope s_size_of_number) := ⟨rfl, rfl, rfl, by decide +kernel, rfl, by decide +kernel, by decide +kernel⟩
def SzPre (x : Int × Int × Unit) : Prop := 2 ≤ x.2.1 ∧ x.2.1 ≤ 1000
abbrev sp_size_of_number : Sp := SpF SzPre fun x : Int × Int × Unit => if x.1 = 0 then none else some (sz x.1 x.2.1)
theorem mono_test {t : TE} (h : ∀ σ H (Q Q' : VK), (∀ v H1, Q v H1 → Q' v H1) → t σ H Q → t σ H Q') : ∀ σ H (Q Q' : Bool → Hp → Prop), (∀ b H1, Q b H1 → Q' b H1) → tTest t σ H Q → tTest t σ H Q' :=
  fun σ H Q Q' hq => h σ H _ _ fun v H1 ⟨b, e, z⟩ => ⟨b, e, hq _ _ z⟩
theorem ok_size_of_number (T : Tx mg) {f : Addr} {fd : FuncData} (F : Fun K "size_of_number" "size_of_number" s_size_of_number f fd) : FnOk P w K mg base CX0 1 f fd ["number", "p"] sp_size_of_number := by
  refine F.ok sc_size_of_number (fun vs H Q E h => SpF.len h) (fun cdv A outer s H vs Q E hr h => ?_)
  obtain ⟨G, ⟨x, p, _⟩, e, ⟨_, _, rfl, hx, _, _, rfl, hp, rfl⟩, ⟨h1, h2⟩, q⟩ := h
  obtain rfl : _ = V.int x := hx
  obtain rfl : _ = V.int p := hp
  dsimp only at h1 h2 q
  refine ⟨_, (pss_cons (ps_if (pt_cmpR op_eq (pv 0) pe_int (nomark _)) (pss_one (ps_ret pe_non)) pss_nil)
      (pss_cons (ps_set (i := 2) sc_size_of_number.nd rfl (Or.inl rfl) pe_int)
      (pss_cons (ps_while PassesOwn.never (pt_cmpR op_eq (pe_op op_mod (pv 0) (pv 1)) pe_int (nomark _)) (pss_cons (ps_set (i := 0) sc_size_of_number.nd rfl (Or.inl rfl) (pe_op op_fdivZ (pv 0) (pv 1)))
      (pss_one (ps_aug (i := 2) sc_size_of_number.nd rfl (Or.inl rfl) pe_int ip_add))))
      (pss_one (ps_ret (pv 2)))))), ?_⟩
  have F0 := Fr.start e
  refine st_if F0 (et_test (ev_eqI (ev_var rfl rfl) ev_int)) (fun hb G1 H1 F1 e1 => ?_) (fun hb G1 H1 F1 e1 => ?_)
  · have hb := of_decide_eq_true hb
    refine st_ret F1 (x := (none : Option Int)) ev_non fun v G3 H3 s3 d3 => q v G3 H3 s3 ?_
    rw [if_pos hb]; exact d3
  · have hb := of_decide_eq_false hb
    refine nxt ?_
    dsimp only
    refine st_setI F1 ev_int fun G2 H2 F2 e2 => ?_
    refine while_by (fun σ H' => ∃ G' y k, Fr G H G' [] H' ∧ σ = [some (.int y), some (.int p), some (.int k)] ∧ y ≠ 0 ∧ k + sz y p = sz x p) (fun σ _ => match σ with | some (.int y) :: _ => y.natAbs | _ => 0) ⟨G2, x, 0, F2, rfl, hb, by omega⟩ ?_ ?_
    · rintro σ H3 ⟨G3, y, k, F3, rfl, hy, hk⟩
      refine et_test (ev_eqI (ev_I (ev_var rfl rfl) (ev_var rfl rfl) (by show 0 < p; omega)) ev_int) G3 H3 (Same.refl _) F3.o _ fun G4 H4 s4 => ?_
      have F4 := F3.step s4
      refine ite2 (fun hc => ?_) (fun hc => ?_)
      · have hc := of_decide_eq_true hc
        obtain ⟨z1, z2, z3⟩ := sz_yes h1 hy hc
        refine st_setI F4 (ev_I (ev_var rfl rfl) (ev_var rfl rfl) (cdivS (by omega) (by omega))) fun G5 H5 F5 e5 => ?_
        refine ⟨_, rfl, _, _, rfl, rfl, ⟨G5, y / p, k + 1, F5, ?_, z2, by omega⟩, ?_⟩
        · rw [fdivE (by omega)]; rfl
        · show (y.fdiv p).natAbs < y.natAbs
          rw [fdivE (by omega)]; exact z3
      · have hc : y % p ≠ 0 := fun z => hc (decide_eq_true z)
        have := sz_no hc
        refine st_ret F4 (ev_some (ev_var (x := k) rfl rfl)) fun v G5 H5 s5 d5 => q v G5 H5 s5 ?_
        rw [if_neg hb]
        have e6 : k = sz x p := by omega
        rw [← e6]; exact d5
    · intro σ H Q Q' hq
      exact fun ⟨v, e1, w, e2, i, j, a1, a2, a3, r1, b, e3, z⟩ => ⟨v, e1, w, e2, i, j, a1, a2, a3, r1, b, e3, hq _ _ z⟩
end
end Bw
set_option Elab.async false
set_option linter.all false
set_option maxRecDepth 100000
set_option maxHeartbeats 4000000
namespace Bw
open PySem L2 Bd
section
variable {P : Program} {w : World} {K : PySem.W.Frag} {mg : Str → Option Value} {base : Heap}
/-! ### inverse -/
abbrev s_inverse : Stmt := top 16
theorem sc_inverse : FnScope ["number", "modulus", "one", "other", "here", "there", "often"] ["number", "modulus"] (defScope s_inverse) := ⟨rfl, rfl, rfl, by decide +kernel, rfl, by decide +kernel, by decide +kernel⟩
  -- slots 0:number 1:modulus 2:one 3:other 4:here 5:there 6:often
def InvPre (x : Int × Int × Unit) : Prop := 0 < x.2.1 ∧ x.2.1 ≤ 2 ^ 8000
abbrev sp_inverse : Sp := SpF InvPre fun x : Int × Int × Unit => inv x.1 x.2.1
theorem ok_inverse (T : Tx mg) {f : Addr} {fd : FuncData} (F : Fun K "inverse" "inverse" s_inverse f fd) : FnOk P w K mg base CX0 1 f fd ["number", "modulus"] sp_inverse := by
  refine F.ok sc_inverse (fun vs H Q E h => SpF.len h) (fun cdv A outer s H vs Q E hr h => ?_)
  obtain ⟨G, ⟨x, m, _⟩, e, ⟨_, _, rfl, hx, _, _, rfl, hm, rfl⟩, ⟨h1, h2⟩, q⟩ := h
  obtain rfl : _ = V.int x := hx
  obtain rfl : _ = V.int m := hm
  dsimp only at h1 h2 q
  refine ⟨_, (pss_cons (ps_par (i := 2) (j := 3) rfl sc_inverse.nd rfl rfl (by decide) rfl rfl (pa_cons (pe_op op_mod (pv 0) (pv 1)) (pa_cons (pv 1) pa_nil)) (by rfl))
      (pss_cons (ps_asg (pe_tup (pa_cons pe_int (pa_cons pe_int pa_nil))) (pg_tupK (K := K) (n := 2) rfl (pgs_cons (pg_name (i := 4) sc_inverse.nd rfl (Or.inl rfl)) (pgs_cons (pg_name (i := 5) sc_inverse.nd rfl (Or.inl rfl)) pgs_nil))))
      (pss_cons (ps_while PassesOwn.never (pt_cmpR op_ne (pv 3) pe_int (nomark _)) (pss_cons (ps_set (i := 6) sc_inverse.nd rfl (Or.inl rfl) (pe_op op_fdivZ (pv 2) (pv 3)))
      (pss_cons (ps_par (i := 2) (j := 3) rfl sc_inverse.nd rfl rfl (by decide) rfl rfl (pa_cons (pv 3) (pa_cons (pe_op op_sub (pv 2) (pe_op op_mulW (pv 6) (pv 3))) pa_nil)) (by rfl))
      (pss_one (ps_par (i := 4) (j := 5) rfl sc_inverse.nd rfl rfl (by decide) rfl rfl (pa_cons (pv 5) (pa_cons (pe_op op_sub (pv 4) (pe_op op_mulW (pv 6) (pv 5))) pa_nil)) (by rfl))))))
      (pss_one (ps_ret (pe_op op_mod (pv 4) (pv 1))))))), ?_⟩
  have F0 := Fr.start e
  have mz : ∀ z : Int, (z.natAbs : Int) ≤ m → z.natAbs ≤ 2 ^ 8000 := fun z hz => by
    have e8 : ((2 ^ 8000 : Nat) : Int) = (2 : Int) ^ 8000 := by exact Int.natCast_pow 2 8000
    omega
  refine ⟨_, rfl, _, rfl, _, _, rfl, rfl, h1, _, rfl, _, _, rfl, ?_⟩
  refine st_unpack F0 (ev_tup (ev_int (i := 1)) (ev_int (i := 0))) fun v w G1 H1 F1 e1 d1 d2 => ?_
  obtain rfl : v = V.int 1 := d1
  obtain rfl : w = V.int 0 := d2
  refine st_while (G0 := G) (H0 := H) (fun k σ H' => ∃ G' one other h t v, Fr G H G' [] H' ∧ σ = [some (.int x), some (.int m), some (.int one), some (.int other), some (.int h), some (.int t), v] ∧ InvJ m one other h t ∧ k = other.toNat ∧ invF (other.toNat + 1) one other h t = invF (m.toNat + 1) (x % m) m 1 0) m.toNat ⟨G1, x % m, m, 1, 0, none, F1, rfl, InvJ.start h1, rfl, rfl⟩ ?_
  rintro k σ H1 ⟨G1, one, other, h, t, v, F1, rfl, J, rfl, hR⟩
  refine ⟨G1, [], _, F1, et_test (ev_neI (ev_var rfl rfl) ev_int), fun hb G2 H2 F2 e2 => ?_, fun hb G2 H2 F2 e2 => ?_⟩
  · have hne : other ≠ 0 := by simpa using hb
    obtain ⟨J2, r0, r1, q0, q1⟩ := J.next hne
    obtain ⟨o0, o1, ob, _, _, jb, tb⟩ := J
    refine st_setI F2 (ev_I (ev_var rfl rfl) (ev_var rfl rfl) (cdiv hne (mz _ (by omega)) (by omega))) fun G3 H3 F3 e3 => ?_
    rw [fdivE o1]
    refine ⟨_, rfl, _, rfl, _, rfl, _, rfl, _, _, rfl, rfl, cmul (mz _ (by omega)) (mz _ (by omega)) (by omega), _, _, rfl, rfl, _, _, rfl, ?_⟩
    refine ⟨_, rfl, _, rfl, _, rfl, _, rfl, _, _, rfl, rfl, cmul (mz _ (by omega)) (mz _ (by omega)) (by omega), _, _, rfl, rfl, _, _, rfl, ?_⟩
    refine ⟨_, ?_, G3, other, one - one / other * other, t, h - one / other * t, some (.int (one / other)), F3, rfl, J2, rfl, ?_⟩
    · omega
    · rw [← hR]
      show _ = (if other = 0 then h else invF other.toNat other (one - one / other * other) t (h - one / other * t))
      rw [if_neg hne]
      exact invF_fuel _ _ _ _ _ _ o1 r0 (by omega) (by omega)
  · have he : other = 0 := by simpa using hb
    refine st_ret F2 (ev_I (ev_var rfl rfl) (ev_var rfl rfl) (by show 0 < m; exact h1)) fun v G3 H3 s3 d3 => q v G3 H3 s3 ?_
    have e5 : invF (other.toNat + 1) one other h t = h := by
      show (if other = 0 then h else _) = h
      rw [if_pos he]
    rw [e5] at hR
    unfold inv
    rw [← hR]; exact d3
/-! ### trimmed -/
abbrev s_trimmed : Stmt := top 19
theorem sc_trimmed : FnScope ["numbers", "many"] ["numbers"] (defScope s_trimmed) := ⟨rfl, rfl, rfl, by decide +kernel, rfl, by decide +kernel, by decide +kernel⟩
  -- slots 0:numbers 1:many
def LenPre (x : L × Unit) : Prop := x.1.length ≤ 1000
abbrev sp_trimmed : Sp := SpF LenPre fun x : L × Unit => trim x.1
theorem ok_trimmed (T : Tx mg) {f : Addr} {fd : FuncData} (F : Fun K "trimmed" "trimmed" s_trimmed f fd) : FnOk P w K mg base CX0 1 f fd ["numbers"] sp_trimmed := by
  refine F.ok sc_trimmed (fun vs H Q E h => SpF.len h) (fun cdv A outer s H vs Q E hr h => ?_)
  obtain ⟨G, ⟨l, _⟩, e, ⟨v, _, rfl, hl, rfl⟩, h1, q⟩ := h
  dsimp only at hl q
  have h1 : l.length ≤ 1000 := h1
  refine ⟨_, (pss_cons (ps_set (i := 1) sc_trimmed.nd rfl (Or.inl rfl) (pe_callB (lenK (K := K)) (by rfl) T.b_len PySem.boot_len (pa_cons (pv 0) pa_nil)))
      (pss_cons (ps_while PassesOwn.never (PW.pt (pw_and (pt_cmpR op_gt (pv 1) pe_int (nomark _)) (pw_and1 (pt_cmpR op_eq (pe_ix (ixL (K := K)) (pv 0) (pe_op op_sub (pv 1) pe_int) (fun _ _ => rfl)) pe_int (nomark _))))) (pss_one (ps_aug (i := 1) sc_trimmed.nd rfl (Or.inl rfl) pe_int ip_sub)))
      (pss_one (ps_ret (pe_callTy (listK (K := K)) (by rfl) T.b_list (by decide +kernel) (pa_cons (pe_slice (slL (K := K)) (pv 0) po_none (po_some (pv 1))) pa_nil)))))), ?_⟩
  have F0 := Fr.start e
  refine st_setI F0 (ev_len (ev_var rfl hl)) fun G1 H1 F1 e1 => ?_
  refine st_while (G0 := G) (H0 := H) (fun k σ H' => ∃ G', Fr G H G' [] H' ∧ σ = [some v, some (.int (k : Int))] ∧ k ≤ l.length ∧ trim (l.take k) = trim l) l.length ⟨G1, F1, rfl, Nat.le_refl _, by rw [List.take_length]⟩ ?_
  rintro k σ H2 ⟨G2, F2, rfl, hk, ht⟩
  have hl2 := Den.mono F2.s.g hl
  refine ⟨G2, [], _, F2, et_and (et_test (ev_B0 (ev_var rfl rfl) ev_int)) (b := decide (at_ l (k - 1) = 0)) (fun hb => et_test (ev_eqI (ev_ixI (k := k - 1) (ev_var rfl hl2) (ev_I0 (ev_var rfl rfl) ev_int) ?_ ?_) ev_int)), fun hb G3 H3 F3 e3 => ?_, fun hb G3 H3 F3 e3 => ?_⟩
  · have := of_decide_eq_true hb; omega
  · have := of_decide_eq_true hb; omega
  · simp only [Bool.and_eq_true, decide_eq_true_eq] at hb
    refine ⟨_, rfl, _, _, rfl, rfl, k - 1, by omega, G3, F3, ?_, by omega, ?_⟩
    · have : ((k - 1 : Nat) : Int) = (k : Int) - 1 := by omega
      rw [this]; rfl
    · rw [← ht]
      have ek : k = (k - 1) + 1 := by omega
      have := trim_take (l := l) (k := k - 1) (by omega) hb.2
      rw [← ek] at this; exact this.symm
  · refine st_ret F3 (EvL.ev (el_list (EvL.ev (el_sl (ev_var rfl (Den.mono e3 hl2)) eo_none (eo_some (ev_var (x := (k : Int)) rfl rfl)))))) fun v G4 H4 s4 d4 => q v G4 H4 s4 ?_
    rw [cut_hi l k] at d4
    have : trim l = l.take k := by
      rw [← ht]
      by_cases h0 : k = 0
      · subst h0; rfl
      · have hb2 : at_ l (k - 1) ≠ 0 := by
          intro z
          simp [z] at hb; omega
        have ek : k = (k - 1) + 1 := by omega
        have := trim_done (l := l) (k := k - 1) (by omega) hb2
        rw [← ek] at this; exact this
    rw [this]; exact d4
/-! ### number_at -/
abbrev s_number_at : Stmt := top 20
theorem sc_number_at : FnScope ["f", "k"] ["f", "k"] (defScope s_number_at) := ⟨rfl, rfl, rfl, by decide +kernel, rfl, by decide +kernel, by decide +kernel⟩
def NaPre (x : L × Int × Unit) : Prop := 0 ≤ x.2.1
abbrev sp_number_at : Sp := SpF NaPre fun x : L × Int × Unit => at_ x.1 x.2.1.toNat
theorem ok_number_at (T : Tx mg) {f : Addr} {fd : FuncData} (F : Fun K "number_at" "number_at" s_number_at f fd) : FnOk P w K mg base CX0 1 f fd ["f", "k"] sp_number_at := by
  refine F.ok sc_number_at (fun vs H Q E h => SpF.len h) (fun cdv A outer s H vs Q E hr h => ?_)
  obtain ⟨G, ⟨l, k, _⟩, e, ⟨v, _, rfl, hl, _, _, rfl, hk, rfl⟩, h1, q⟩ := h
  obtain rfl : _ = V.int k := hk
  have h1 : 0 ≤ k := h1
  dsimp only at hl q
  refine ⟨_, (pss_cons (ps_if (pt_cmpR op_lt (pv 1) (pe_callB (lenK (K := K)) (by rfl) T.b_len PySem.boot_len (pa_cons (pv 0) pa_nil)) (nomark _)) (pss_one (ps_ret (pe_ix (ixL (K := K)) (pv 0) (pv 1) (fun _ _ => rfl)))) pss_nil)
      (pss_one (ps_ret pe_int))), ?_⟩
  have F0 := Fr.start e
  refine st_if F0 (et_test (ev_B0 (ev_var rfl rfl) (ev_len (ev_var rfl hl)))) (fun hb G1 H1 F1 e1 => ?_) (fun hb G1 H1 F1 e1 => ?_)
  · have hb := of_decide_eq_true hb
    exact st_ret F1 (ev_ixI (k := k.toNat) (ev_var rfl (Den.mono e1 hl)) (ev_var rfl rfl) (by omega) (by omega)) fun v G4 H4 s4 d4 => q v G4 H4 s4 d4
  · have hb := of_decide_eq_false hb
    refine nxt ?_
    dsimp only
    refine st_ret F1 (ev_int (i := 0)) fun v G4 H4 s4 d4 => q v G4 H4 s4 ?_
    rw [at_ge (by omega)]; exact d4
end
end Bw
set_option Elab.async false
set_option linter.all false
set_option maxRecDepth 100000
set_option maxHeartbeats 4000000
namespace Bw
open PySem L2 Bd
section
variable {P : Program} {w : World} {K : PySem.W.Frag} {mg : Str → Option Value} {base : Heap}
theorem d_intsV {H : Hp} (ns : List Int) : Paired (Den.D H) (ns.map V.int) ns := d_ints.mpr rfl
theorem bnT {p : Prop} [Decidable p] (h : (!decide p) = true) : ¬ p := by simpa using h
theorem bnF {p : Prop} [Decidable p] (h : (!decide p) = false) : p := by simpa using h
/-! ### lists compared -/
class DenP (α : Type) [Den α] where
  P : α → PyData
  dp : ∀ {K : PySem.W.Frag} {H : Hp} {v : V} {x : α}, Den.D H v x → Dp K H v (P x)
  lay : ∀ x : α, (P x).canLay0 = true
  dep : Nat
  dle : ∀ x : α, (P x).depth ≤ dep
instance pInt : DenP Int := ⟨.int, fun {K H v x} h => by have h : v = V.int x := h; subst h; exact .int _, fun _ => rfl, 0, fun _ => Nat.le_refl _⟩
theorem dpAll {α : Type} [Den α] [DenP α] {K : PySem.W.Frag} {H : Hp} : ∀ {vs : List V} {xs : List α}, Paired (Den.D H) vs xs → DpAll K H vs (xs.map DenP.P)
  | _, _, .nil => .nil
  | _, _, .cons r t => .cons (DenP.dp r) (dpAll t)
theorem layAll {α : Type} [Den α] [DenP α] : ∀ xs : List α, PyData.canLayAll0 (xs.map DenP.P) = true
  | [] => by simp [PyData.canLayAll0]
  | x :: xs => by simp [PyData.canLayAll0, DenP.lay x, layAll xs]
theorem depAll {α : Type} [Den α] [DenP α] : ∀ xs : List α, PyData.depthAll (xs.map DenP.P) ≤ DenP.dep α
  | [] => by simp [PyData.depthAll]
  | x :: xs => by
    have h1 := DenP.dle x
    have h2 := depAll xs
    simp only [List.map_cons, PyData.depthAll]
    omega
instance pList {α : Type} [Den α] [DenP α] : DenP (List α) := ⟨fun xs => .list (xs.map DenP.P), fun {K H v x} h => by obtain ⟨a, vs, rfl, h1, h2⟩ := h; exact .lst (SqL.of h1) (dpAll h2), fun xs => by simp only [PyData.canLay0]; exact layAll xs, DenP.dep α + 1, fun xs => by
  simp only [PyData.depth]; have := depAll xs; omega⟩
theorem shaped_of {α : Type} [Den α] [DenP α] (x : α) (h : DenP.dep α ≤ 64) : SeqAt.shaped (DenP.P x) = true := by
  unfold SeqAt.shaped
  rw [DenP.lay x, Bool.true_and]
  exact decide_eq_true (Nat.le_trans (DenP.dle x) h)
theorem ev_eqnil {α : Type} [Den α] [DenP α] {σ : L2.St} {G : Hp} {L : Ls} {ta : TE} {f : List α} (ha : Ev ta σ G L f) (hd : DenP.dep α ≤ 60) : Ev (tOp (rEqD K) ta (tLst tNil)) σ G L (decide (f = [])) := fun G1 H1 e o Q q =>
  ha G1 H1 e o _ fun v G2 H2 s2 d2 => ⟨Nat.zero_le _, fun p hp => by
    have s3 := s2.trans (Step.new (o := .lst []) s2.i hp)
    have d3 : Den.D (upd H2 p (.lst [])) v f := Den.mono (s2.i.trans (same_new hp)) d2
    refine ⟨DenP.P f, .list [], DenP.dp d3, .lst (SqL.of upd_same) .nil, shaped_of f (by show DenP.dep α + 1 ≤ 64; omega), rfl, ?_⟩
    refine q _ _ _ s3 ?_
    show V.bl _ = V.bl _
    congr 1
    cases f with
    | nil => show PyData.eqv (.list []) (.list []) = _; simp [PyData.eqv, PyData.eqvAll]
    | cons x f => show PyData.eqv (.list (DenP.P x :: f.map DenP.P)) (.list []) = _; simp [PyData.eqv, PyData.eqvAll]⟩
theorem eqv_ints : ∀ xs ys : List Int, PyData.eqvAll (xs.map DenP.P) (ys.map DenP.P) = decide (xs = ys)
  | [], [] => by simp [PyData.eqvAll]
  | [], _ :: _ => by simp [PyData.eqvAll]
  | _ :: _, [] => by simp [PyData.eqvAll]
  | x :: xs, y :: ys => by
    simp only [List.map_cons, PyData.eqvAll, eqv_ints xs ys]
    have : PyData.eqv (DenP.P x) (DenP.P y) = decide (x = y) := by
      show PyData.eqv (.int x) (.int y) = _
      simp only [PyData.eqv]; rfl
    rw [this]
    simp
theorem ev_eqints {σ : L2.St} {G : Hp} {L : Ls} {ta tb : TE} {f g : List Int} (ha : Ev ta σ G L f) (hb : Ev tb σ G L g) : Ev (tOp (rEqD K) ta tb) σ G L (decide (f = g)) :=
  ev_op ha hb fun G1 H1 v w o _ d1 d2 Q q => ⟨DenP.P f, DenP.P g, DenP.dp (Den.mono o.i d1), DenP.dp (Den.mono o.i d2), shaped_of f (by decide), shaped_of g (by decide), by
    refine q _ _ _ (Step.refl o.i) ?_
    show V.bl _ = V.bl _
    congr 1
    show PyData.eqv (.list (f.map DenP.P)) (.list (g.map DenP.P)) = _
    simp only [PyData.eqv, eqv_ints]⟩
/-! ### multiplied -/
abbrev s_multiplied : Stmt := top 21
theorem sc_multiplied : FnScope ["f", "g", "found", "i", "j"] ["f", "g"] (defScope s_multiplied) := ⟨rfl, rfl, rfl, by decide +kernel, rfl, by decide +kernel, by decide +kernel⟩
  -- slots 0:f 1:g 2:found 3:i 4:j
def MulPre (x : L × L × Unit) : Prop := x.1.length ≤ 100 ∧ x.2.1.length ≤ 100 ∧ ∃ a b, Bn a x.1 ∧ Bn b x.2.1 ∧ a + b ≤ 900000
abbrev sp_multiplied : Sp := SpF MulPre fun x : L × L × Unit => mul x.1 x.2.1
theorem ok_multiplied (T : Tx mg) (D_trimmed : Df P w K mg base "trimmed" 1 ["numbers"] sp_trimmed) {f : Addr} {fd : FuncData} (F : Fun K "multiplied" "multiplied" s_multiplied f fd) : FnOk P w K mg base CX0 2 f fd ["f", "g"] sp_multiplied := by
  refine F.ok sc_multiplied (fun vs H Q E h => SpF.len h) (fun cdv A outer s H vs Q E hr h => ?_)
  obtain ⟨G, ⟨x, y, _⟩, e, ⟨v, _, rfl, hx, w, _, rfl, hy, rfl⟩, ⟨h1, h2, a, b, hA, hB, hab⟩, q⟩ := h
  dsimp only at hx hy q h1 h2 hA hB
  obtain ⟨f_trimmed, fd_trimmed, g_trimmed, m_trimmed, k_trimmed, b_trimmed⟩ := D_trimmed
  have hr_trimmed : Room 1 _ := hr.mono (by decide)
  refine ⟨_, (pss_cons (ps_if (PW.pt (pw_or (pt_cmpR (op_eqD hr.units) (pv 0) (pe_lst pa_nil) (nomark _)) (pw_or1 (pt_cmpR (op_eqD hr.units) (pv 1) (pe_lst pa_nil) (nomark _))))) (pss_one (ps_ret (pe_lst pa_nil))) pss_nil)
      (pss_cons (ps_set (i := 2) sc_multiplied.nd rfl (Or.inl rfl) (pe_op op_rep (pe_lst (pa_cons pe_int pa_nil)) (pe_op op_sub (pe_op op_add (pe_callB (lenK (K := K)) (by rfl) T.b_len PySem.boot_len (pa_cons (pv 0) pa_nil)) (pe_callB (lenK (K := K)) (by rfl) T.b_len PySem.boot_len (pa_cons (pv 1) pa_nil))) pe_int)))
      (pss_cons (ps_for PassesOwn.never rfl (pi_range1 rfl T.b_range (pa_cons (pe_callB (lenK (K := K)) (by rfl) T.b_len PySem.boot_len (pa_cons (pv 0) pa_nil)) pa_nil)) (pg_name (i := 3) sc_multiplied.nd rfl (Or.inl rfl)) (pss_one (ps_if (pt_cmpR op_ne (pe_ix (ixL (K := K)) (pv 0) (pv 3) (fun _ _ => rfl)) pe_int (nomark _)) (pss_one (ps_for PassesOwn.never rfl (pi_range1 rfl T.b_range (pa_cons (pe_callB (lenK (K := K)) (by rfl) T.b_len PySem.boot_len (pa_cons (pv 1) pa_nil)) pa_nil)) (pg_name (i := 4) sc_multiplied.nd rfl (Or.inl rfl)) (pss_one (ps_augS (pv 2) (pe_op op_add (pv 3) (pv 4)) pget_list (pe_op op_mulW (pe_ix (ixL (K := K)) (pv 0) (pv 3) (fun _ _ => rfl)) (pe_ix (ixL (K := K)) (pv 1) (pv 4) (fun _ _ => rfl))) ip_add set_list)))) pss_nil)))
      (pss_one (ps_ret (pe_call g_trimmed hr_trimmed rfl m_trimmed k_trimmed b_trimmed .nil pass0 (pa_cons (pv 2) pa_nil))))))), ?_⟩
  have F0 := Fr.start e
  refine st_if F0 (et_or (et_test (ev_eqnil (ev_var rfl hx) (by decide))) (fun _ => et_test (ev_eqnil (ev_var rfl hy) (by decide)))) (fun hb G1 H1 F1 e1 => ?_) (fun hb G1 H1 F1 e1 => ?_)
  · refine st_ret F1 (EvL.ev (el_nil (α := Int))) fun v G3 H3 s3 d3 => q v G3 H3 s3 ?_
    have : mul x y = [] := by
      unfold mul
      rw [if_pos (by simpa using hb)]
    rw [this]; exact d3
  refine nxt ?_
  dsimp only
  have hne : ¬ (x = [] ∨ y = []) := by simpa using hb
  have hlx : 0 < x.length := by
    rcases Nat.eq_zero_or_pos x.length with c | c
    · exact absurd (.inl (List.length_eq_zero_iff.mp c)) hne
    · exact c
  have hly : 0 < y.length := by
    rcases Nat.eq_zero_or_pos y.length with c | c
    · exact absurd (.inr (List.length_eq_zero_iff.mp c)) hne
    · exact c
  have hx1 := Den.mono e1 hx
  have hy1 := Den.mono e1 hy
  refine st_setLI F1 (el_rep (el_one (ev_int (i := 0))) (ev_I0 (ev_I0 (ev_len (ev_var rfl hx1)) (ev_len (ev_var rfl hy1))) ev_int) (by omega) (by omega)) fun l G2 H2 F2 e2 => ?_
  have ez : List.replicate (((x.length : Int) + (y.length : Int) - 1).toNat) (0 : Int) = zeros (x.length + y.length - 1) := by
    rw [zeros_eq]; congr 1; omega
  rw [ez] at F2
  refine st_for1 F2 (ea_cons (ev_len (ev_var rfl (Den.mono e2 hx1))) ea_nil) (by omega) (by omega)
    (fun i σ H' => ∃ G' k j, Fr G H G' ((l, (convN x y i (zeros (x.length + y.length - 1))).map V.int) :: []) H' ∧ σ = [some v, some w, some (.ref l), k, j]) (fun G3 H3 F3 e3 => ⟨G3, none, none, F3, rfl⟩) ?_ ?_
  · rintro i σ H3 hi ⟨G3, k, j, F3, rfl⟩
    have hi : i < x.length := by omega
    have hx3 := Den.mono F3.s.g hx
    have hy3 := Den.mono F3.s.g hy
    refine st_if F3 (et_test (ev_neI (ev_ixI (k := i) (ev_var rfl hx3) (ev_var rfl rfl) rfl hi) ev_int)) (fun hb G4 H4 F4 e4 => ?_) (fun hb G4 H4 F4 e4 => ?_)
    · have hb : at_ x i ≠ 0 := bnT hb
      refine st_for1 F4 (ea_cons (ev_len (ev_var rfl (Den.mono e4 hy3))) ea_nil) (by omega) (by omega)
        (fun j σ H' => ∃ G' jj, Fr G H G' ((l, (addRow (at_ x i) y i j (convN x y i (zeros (x.length + y.length - 1)))).map V.int) :: []) H' ∧ σ = [some v, some w, some (.ref l), some (.int i), jj]) (fun G5 H5 F5 e5 => ⟨G5, j, F5, rfl⟩) ?_ ?_
      · rintro j σ H5 hj ⟨G5, jj, F5, rfl⟩
        have hj : j < y.length := by omega
        have hlen : (addRow (at_ x i) y i j (convN x y i (zeros (x.length + y.length - 1)))).length = x.length + y.length - 1 := by rw [len_addRow, len_convN, len_zeros]
        refine st_augI F5 rfl (ev_I0 (ev_var (x := (i : Int)) rfl rfl) (ev_var (x := (j : Int)) rfl rfl)) (k := i + j) (by omega) (by rw [hlen]; omega)
          (ev_I (ev_ixI (k := i) (ev_var rfl (Den.mono F5.s.g hx)) (ev_var rfl rfl) rfl hi) (ev_ixI (k := j) (ev_var rfl (Den.mono F5.s.g hy)) (ev_var rfl rfl) rfl hj) (cmul (hA i) (hB j) (by omega))) fun G6 H6 F6 e6 => ⟨G6, some (.int j), F6, rfl⟩
      · rintro σ H5 ⟨G5, jj, F5, rfl⟩
        refine ⟨G5, some (.int i), jj, ?_, rfl⟩
        have : convN x y (i + 1) (zeros (x.length + y.length - 1)) = addRow (at_ x i) y i y.length (convN x y i (zeros (x.length + y.length - 1))) := by
          show (if at_ x i = 0 then _ else _) = _
          rw [if_neg hb]; rfl
        rw [this]; exact F5
    · have hb : at_ x i = 0 := bnF hb
      refine nxt ⟨G4, some (.int i), j, ?_, rfl⟩
      have : convN x y (i + 1) (zeros (x.length + y.length - 1)) = convN x y i (zeros (x.length + y.length - 1)) := by
        show (if at_ x i = 0 then _ else _) = _
        rw [if_pos hb]; rfl
      rw [this]; exact F4
  · rintro σ H3 ⟨G3, k, j, F3, rfl⟩
    obtain ⟨G4, F4, e4, d4⟩ := F3.frozen (d_intsV _)
    refine st_ret F4 (ev_call (Pre := LenPre) (F := fun x : L × Unit => trim x.1) (ea_cons (ev_var rfl d4) ea_nil) ?_) fun v G5 H5 s5 d5 => q v G5 H5 s5 ?_
    · show (convN x y _ _).length ≤ 1000
      rw [len_convN, len_zeros]; omega
    · have : mul x y = trim (convN x y x.length (zeros (x.length + y.length - 1))) := by
        unfold mul; rw [if_neg hne]
      rw [this]; exact d5
end
end Bw
set_option Elab.async false
set_option linter.all false
set_option maxRecDepth 100000
set_option maxHeartbeats 4000000
namespace Bw
open PySem L2 Bd
section
variable {P : Program} {w : World} {K : PySem.W.Frag} {mg : Str → Option Value} {base : Heap}
/-! ### divided -/
abbrev s_divided : Stmt := top 22
theorem sc_divided : FnScope ["f", "g", "rest", "found", "k", "number", "j"] ["f", "g"] (defScope s_divided) := ⟨rfl, rfl, rfl, by decide +kernel, rfl, by decide +kernel, by decide +kernel⟩
  -- slots 0:f 1:g 2:rest 3:found 4:k 5:number 6:j
def DivPre (x : L × L × Unit) : Prop := x.1.length ≤ 100 ∧ 0 < x.2.1.length ∧ x.2.1.length ≤ 100 ∧ ∃ a b, Bn a x.1 ∧ Bn b x.2.1 ∧ a + (x.1.length + 2 - x.2.1.length) * (b + 1) ≤ 400000
abbrev sp_divided : Sp := SpF DivPre fun x : L × L × Unit => dv x.1 x.2.1
theorem ok_divided (T : Tx mg) (D_trimmed : Df P w K mg base "trimmed" 1 ["numbers"] sp_trimmed) {f : Addr} {fd : FuncData} (F : Fun K "divided" "divided" s_divided f fd) : FnOk P w K mg base CX0 2 f fd ["f", "g"] sp_divided := by
  refine F.ok sc_divided (fun vs H Q E h => SpF.len h) (fun cdv A outer s H vs Q E hr h => ?_)
  obtain ⟨G, ⟨x, y, _⟩, e, ⟨v, _, rfl, hx, w, _, rfl, hy, rfl⟩, ⟨h1, h2, h3, a, b, hA, hB, hab⟩, q⟩ := h
  dsimp only at hx hy q h1 h2 h3 hA hB hab
  obtain ⟨f_trimmed, fd_trimmed, g_trimmed, m_trimmed, k_trimmed, b_trimmed⟩ := D_trimmed
  have hr_trimmed : Room 1 _ := hr.mono (by decide)
  refine ⟨_, (pss_cons (ps_set (i := 2) sc_divided.nd rfl (Or.inl rfl) (pe_callTy (listK (K := K)) (by rfl) T.b_list (by decide +kernel) (pa_cons (pv 0) pa_nil)))
      (pss_cons (ps_set (i := 3) sc_divided.nd rfl (Or.inl rfl) (pe_op op_rep (pe_lst (pa_cons pe_int pa_nil)) (pe_callB (call_max2 rfl) (by rfl) T.b_max (by decide +kernel) (pa_cons pe_int (pa_cons (pe_op op_add (pe_op op_sub (pe_callB (lenK (K := K)) (by rfl) T.b_len PySem.boot_len (pa_cons (pv 0) pa_nil)) (pe_callB (lenK (K := K)) (by rfl) T.b_len PySem.boot_len (pa_cons (pv 1) pa_nil))) pe_int) pa_nil)))))
      (pss_cons (ps_for PassesOwn.never rfl (pi_range3 rfl T.b_range (pa_cons (pe_op op_sub (pe_callB (lenK (K := K)) (by rfl) T.b_len PySem.boot_len (pa_cons (pv 3) pa_nil)) pe_int) (pa_cons (pe_un un_neg pe_int) (pa_cons (pe_un un_neg pe_int) pa_nil)))) (pg_name (i := 4) sc_divided.nd rfl (Or.inl rfl)) (pss_cons (ps_set (i := 5) sc_divided.nd rfl (Or.inl rfl) (pe_ix (ixL (K := K)) (pv 2) (pe_op op_sub (pe_op op_add (pv 4) (pe_callB (lenK (K := K)) (by rfl) T.b_len PySem.boot_len (pa_cons (pv 1) pa_nil))) pe_int) (fun _ _ => rfl)))
      (pss_cons (ps_asg (pv 5) (pg_sub (pv 3) (pv 4) set_list))
      (pss_one (ps_if (pt_cmpR op_ne (pv 5) pe_int (nomark _)) (pss_one (ps_for PassesOwn.never rfl (pi_range1 rfl T.b_range (pa_cons (pe_callB (lenK (K := K)) (by rfl) T.b_len PySem.boot_len (pa_cons (pv 1) pa_nil)) pa_nil)) (pg_name (i := 6) sc_divided.nd rfl (Or.inl rfl)) (pss_one (ps_augS (pv 2) (pe_op op_add (pv 4) (pv 6)) pget_list (pe_op op_mulW (pv 5) (pe_ix (ixL (K := K)) (pv 1) (pv 6) (fun _ _ => rfl))) ip_sub set_list)))) pss_nil)))))
      (pss_one (ps_ret (pe_tup (pa_cons (pe_call g_trimmed hr_trimmed rfl m_trimmed k_trimmed b_trimmed .nil pass0 (pa_cons (pv 3) pa_nil)) (pa_cons (pe_call g_trimmed hr_trimmed rfl m_trimmed k_trimmed b_trimmed .nil pass0 (pa_cons (pe_slice (slL (K := K)) (pv 2) po_none (po_some (pe_op op_sub (pe_callB (lenK (K := K)) (by rfl) T.b_len PySem.boot_len (pa_cons (pv 1) pa_nil)) pe_int))) pa_nil)) pa_nil)))))))), ?_⟩
  have F0 := Fr.start e
  refine st_setLI F0 (el_list (ev_var rfl hx)) fun r G1 H1 F1 e1 => ?_
  have hx1 := Den.mono e1 hx
  have hy1 := Den.mono e1 hy
  have hm : ∃ m, m = x.length + 1 - y.length := ⟨_, rfl⟩
  obtain ⟨m, hm⟩ := hm
  refine st_setLI F1 (el_rep (el_one (ev_int (i := 0))) (ev_max ev_int (ev_I0 (ev_I0 (ev_len (ev_var rfl hx1)) (ev_len (ev_var rfl hy1))) ev_int)) (by omega) (by omega)) fun fo G2 H2 F2 e2 => ?_
  have ez : List.replicate ((max 0 ((x.length : Int) - (y.length : Int) + 1)).toNat) (0 : Int) = zeros m := by
    rw [zeros_eq]; congr 1; omega
  rw [ez] at F2
  refine st_for3 (m := m) F2 (ea_cons (ev_I0 ((ev_leno (l := fo) rfl List.mem_cons_self).cast (by rw [List.length_map, len_zeros])) ev_int) (ea_cons (ev_neg ev_int) (ea_cons (ev_neg ev_int) ea_nil))) (by omega)
    (fun n σ H' => ∃ G' k nb j, Fr G H G' ((fo, (divN x y m n).2.map V.int) :: (r, (divN x y m n).1.map V.int) :: []) H' ∧ σ = [some v, some w, some (.ref r), some (.ref fo), k, nb, j]) (fun G3 H3 F3 e3 => ⟨G3, none, none, none, F3, rfl⟩) ?_ ?_
  · rintro n σ H3 hn ⟨G3, k, nb, j, F3, rfl⟩
    have hy3 := Den.mono F3.s.g hy
    have hmy : m + y.length = x.length + 1 := by omega
    obtain ⟨l1, l2⟩ := divN_len x y m n
    have bn := divN_bn hA hB hmy h2 n (by omega)
    have e : divN x y m (n + 1) = divSt y (m - 1 - n) (divN x y m n) := rfl
    rw [e]
    generalize divN x y m n = st at *
    obtain ⟨rr, qq⟩ := st
    dsimp only at l1 l2 bn F3
    refine st_setI F3 (ev_ixoI (k := m - 1 - n + y.length - 1) rfl (List.mem_cons_of_mem _ List.mem_cons_self) (ev_I0 (ev_I0 (ev_var (x := ((m - 1 - n : Nat) : Int)) rfl rfl) (ev_len (ev_var rfl hy3))) ev_int) (by omega) (by omega)) fun G4 H4 F4 e4 => ?_
    refine st_setIx F4 rfl (ev_var (x := at_ rr (m - 1 - n + y.length - 1)) rfl rfl) (ev_var (x := ((m - 1 - n : Nat) : Int)) rfl rfl) rfl (by rw [List.length_map]; omega) fun u G5 H5 F5 e5 d5 => ?_
    obtain rfl : u = V.int (at_ rr (m - 1 - n + y.length - 1)) := d5
    rw [← List.map_set] at F5
    refine st_if F5 (et_test (ev_neI (ev_var (x := at_ rr (m - 1 - n + y.length - 1)) rfl rfl) ev_int)) (fun hb G6 H6 F6 e6 => ?_) (fun hb G6 H6 F6 e6 => ?_)
    · have hb := bnT hb
      have hy6 := Den.mono F6.s.g hy
      refine st_for1 F6.swap (ea_cons (ev_len (ev_var rfl hy6)) ea_nil) (by omega) (by omega)
        (fun t σ H' => ∃ G' jj, Fr G H G' ((r, (addRow (-(at_ rr (m - 1 - n + y.length - 1))) y (m - 1 - n) t rr).map V.int) :: (fo, (qq.set (m - 1 - n) (at_ rr (m - 1 - n + y.length - 1))).map V.int) :: []) H' ∧
          σ = [some v, some w, some (.ref r), some (.ref fo), some (.int ((m - 1 - n : Nat) : Int)), some (.int (at_ rr (m - 1 - n + y.length - 1))), jj]) (fun G7 H7 F7 e7 => ⟨G7, j, F7, rfl⟩) ?_ ?_
      · rintro t σ H7 ht ⟨G7, jj, F7, rfl⟩
        have ht : t < y.length := by omega
        have hlen : (addRow (-(at_ rr (m - 1 - n + y.length - 1))) y (m - 1 - n) t rr).length = x.length := by rw [len_addRow, l1]
        have hcm : CMulW (at_ rr (m - 1 - n + y.length - 1)) (y.getD t 0) := cmul (bn _) (hB t) (by
          have h9 : n * (b + 1) ≤ (x.length + 2 - y.length) * (b + 1) := Nat.mul_le_mul_right _ (by omega)
          have h8 : 1 * (b + 1) ≤ (x.length + 2 - y.length) * (b + 1) := Nat.mul_le_mul_right _ (by omega)
          omega)
        refine st_augI F7 rfl (ev_I0 (ev_var (x := ((m - 1 - n : Nat) : Int)) rfl rfl) (ev_var (x := (t : Int)) rfl rfl)) (k := m - 1 - n + t) (by omega) (by rw [hlen]; omega)
          (ev_I (ev_var (x := at_ rr (m - 1 - n + y.length - 1)) rfl rfl) (ev_ixI (k := t) (ev_var rfl (Den.mono F7.s.g hy)) (ev_var rfl rfl) rfl ht) hcm) fun G8 H8 F8 e8 => ⟨G8, some (.int t), ?_, rfl⟩
        have : addRow (-(at_ rr (m - 1 - n + y.length - 1))) y (m - 1 - n) (t + 1) rr = (addRow (-(at_ rr (m - 1 - n + y.length - 1))) y (m - 1 - n) t rr).set (m - 1 - n + t) (at_ (addRow (-(at_ rr (m - 1 - n + y.length - 1))) y (m - 1 - n) t rr) (m - 1 - n + t) - at_ rr (m - 1 - n + y.length - 1) * at_ y t) := by
          show addAt _ _ _ = _
          unfold addAt
          congr 1
          rw [Int.neg_mul, Int.sub_eq_add_neg]; rfl
        rw [this]; exact F8
      · rintro σ H7 ⟨G7, jj, F7, rfl⟩
        refine ⟨G7, some (.int ((m - 1 - n : Nat) : Int)), some (.int (at_ rr (m - 1 - n + y.length - 1))), jj, ?_, rfl⟩
        unfold divSt
        dsimp only
        rw [if_neg hb]
        exact F7.swap
    · have hb := bnF hb
      refine nxt ⟨G6, some (.int ((m - 1 - n : Nat) : Int)), some (.int (at_ rr (m - 1 - n + y.length - 1))), j, ?_, rfl⟩
      unfold divSt
      dsimp only
      rw [if_pos hb]
      exact F6
  · rintro σ H3 ⟨G3, k, nb, j, F3, rfl⟩
    obtain ⟨l1, l2⟩ := divN_len x y m m
    obtain ⟨G4, F4, e4, d4⟩ := F3.frozen (d_intsV _)
    obtain ⟨G5, F5, e5, d5⟩ := F4.frozen (d_intsV _)
    have hy5 := Den.mono F5.s.g hy
    have d4' := Den.mono e5 d4
    have hcut := cut_hi (divN x y m m).1 (y.length - 1)
    refine st_ret F5 (ev_tup (ev_call (Pre := LenPre) (F := fun x : L × Unit => trim x.1) (ea_cons (ev_var rfl d4') ea_nil) (by show (divN x y m m).2.length ≤ 1000; omega))
      (ev_call (Pre := LenPre) (F := fun x : L × Unit => trim x.1) (ea_cons (EvL.ev (el_sl (ev_var rfl d5) eo_none (eo_some (ev_I0 (ev_len (ev_var rfl hy5)) ev_int)))) ea_nil) ?_)) fun v G6 H6 s6 d6 => q v G6 H6 s6 ?_
    · have : ((y.length : Int) - 1) = ((y.length - 1 : Nat) : Int) := by omega
      rw [this, hcut]
      show (List.take _ _).length ≤ 1000
      rw [List.length_take]; omega
    · have : ((y.length : Int) - 1) = ((y.length - 1 : Nat) : Int) := by omega
      rw [this] at d6
      dsimp only at d6
      rw [hcut] at d6
      unfold dv
      dsimp only
      rw [← hm]; exact d6
/-! ### derived -/
abbrev s_derived : Stmt := top 23
theorem sc_derived : FnScope ["f", "k"] ["f"] (defScope s_derived) := ⟨rfl, rfl, rfl, by decide +kernel, rfl, by decide +kernel, by decide +kernel⟩
def DerPre (x : L × Unit) : Prop := x.1.length ≤ 100 ∧ ∃ a, Bn a x.1 ∧ a ≤ 400000
abbrev sp_derived : Sp := SpF DerPre fun x : L × Unit => deriv x.1
theorem ok_derived (T : Tx mg) (D_trimmed : Df P w K mg base "trimmed" 1 ["numbers"] sp_trimmed) {f : Addr} {fd : FuncData} (F : Fun K "derived" "derived" s_derived f fd) : FnOk P w K mg base CX0 2 f fd ["f"] sp_derived := by
  refine F.ok sc_derived (fun vs H Q E h => SpF.len h) (fun cdv A outer s H vs Q E hr h => ?_)
  obtain ⟨G, ⟨x, _⟩, e, ⟨v, _, rfl, hx, rfl⟩, ⟨h1, a, hA, ha⟩, q⟩ := h
  dsimp only at hx q h1 hA
  obtain ⟨f_trimmed, fd_trimmed, g_trimmed, m_trimmed, k_trimmed, b_trimmed⟩ := D_trimmed
  have hr_trimmed : Room 1 _ := hr.mono (by decide)
  refine ⟨_, (pss_one (ps_ret (pe_call g_trimmed hr_trimmed rfl m_trimmed k_trimmed b_trimmed .nil pass0 (pa_cons (pe_lc (own := [("k", 1)]) (tt := tYes) rfl sc_derived.nd (pi_range2 rfl T.b_range (pa_cons pe_int (pa_cons (pe_callB (lenK (K := K)) (by rfl) T.b_len PySem.boot_len (pa_cons (pv 0) pa_nil)) pa_nil))) (blkOk_by (N := ["f", "k"]) (sc := defScope s_derived) (by decide +kernel)) (fun _ _ _ _ _ => (pg_name (i := 1) sc_derived.nd rfl (Or.inl rfl))) (fun _ _ _ _ _ => pts_nil) (fun _ _ _ _ _ => (pe_op op_mulW (pv 1) (pe_ix (ixL (K := K)) (pv 0) (pv 1) (fun _ _ => rfl))))) pa_nil)))), ?_⟩
  have F0 := Fr.start e
  refine st_ret F0 (ev_call (Pre := LenPre) (F := fun x : L × Unit => trim x.1) (x := (tab (x.length - 1) fun i => ((i : Int) + 1) * at_ x (i + 1), ())) (ea_cons (EvL.ev (el_lcR2 (ea_cons ev_int (ea_cons (ev_len (ev_var rfl hx)) ea_nil)) ?_ (by omega) (by omega) (by omega) (by omega) (fun _ => rfl) fun i y G' e' hy => ?_)) ea_nil) ?_) fun v G6 H6 s6 d6 => q v G6 H6 s6 d6
  · rw [len_tab]; omega
  · obtain ⟨hi, rfl⟩ := range_at hy
    refine (ev_I (ev_var (x := 1 + (i : Int)) rfl rfl) (ev_ixI (k := i + 1) (ev_var rfl (Den.mono e' hx)) (ev_var (x := 1 + (i : Int)) rfl rfl) (by omega) (by omega)) (cmul (a := 10) (by omega) (hA (i + 1)) (by omega))).cast ?_
    rw [Int.add_comm 1 (i : Int)]; rfl
  · show (tab _ _).length ≤ 1000
    rw [len_tab]; omega
end
end Bw
set_option Elab.async false
set_option linter.all false
set_option maxRecDepth 100000
set_option maxHeartbeats 4000000
namespace Bw
open PySem L2 Bd
section
variable {P : Program} {w : World} {K : PySem.W.Frag} {mg : Str → Option Value} {base : Heap}
/-! ### product_of -/
abbrev s_product_of : Stmt := top 36
theorem sc_product_of : FnScope ["f", "one", "other", "rest", "k"] ["f", "one", "other"] (defScope s_product_of) := ⟨rfl, rfl, rfl, by decide +kernel, rfl, by decide +kernel, by decide +kernel⟩
  -- slots 0:f 1:one 2:other 3:rest 4:k
def ProPre (x : L × L × L × Unit) : Prop := 1 ≤ x.1.length ∧ x.1.length ≤ 20 ∧ x.2.1.length ≤ 20 ∧ x.2.2.1.length ≤ 20 ∧ ∃ a b c, Bn a x.1 ∧ Bn b x.2.1 ∧ Bn c x.2.2.1 ∧ b + c + 6 + 50 * (a + 1) ≤ 400000
abbrev sp_product_of : Sp := SpF ProPre fun x : L × L × L × Unit => prodOf x.1 x.2.1 x.2.2.1
theorem ok_product_of (T : Tx mg) (D_number_at : Df P w K mg base "number_at" 1 ["f", "k"] sp_number_at) (D_divided : Df P w K mg base "divided" 2 ["f", "g"] sp_divided) (D_multiplied : Df P w K mg base "multiplied" 2 ["f", "g"] sp_multiplied) (D_trimmed : Df P w K mg base "trimmed" 1 ["numbers"] sp_trimmed) {f : Addr} {fd : FuncData} (F : Fun K "product_of" "product_of" s_product_of f fd) : FnOk P w K mg base CX0 3 f fd ["f", "one", "other"] sp_product_of := by
  refine F.ok sc_product_of (fun vs H Q E h => SpF.len h) (fun cdv A outer s H vs Q E hr h => ?_)
  obtain ⟨G, ⟨ff, x, y, _⟩, e, ⟨u, _, rfl, hf, v, _, rfl, hx, w, _, rfl, hy, rfl⟩, ⟨h1, h2, h3, h4, a, b, c, hA, hB, hC, hab⟩, q⟩ := h
  dsimp only at hf hx hy q h1 h2 h3 h4 hA hB hC
  obtain ⟨f_number_at, fd_number_at, g_number_at, m_number_at, k_number_at, b_number_at⟩ := D_number_at
  have hr_number_at : Room 1 _ := hr.mono (by decide)
  obtain ⟨f_divided, fd_divided, g_divided, m_divided, k_divided, b_divided⟩ := D_divided
  have hr_divided : Room 2 _ := hr.mono (by decide)
  obtain ⟨f_multiplied, fd_multiplied, g_multiplied, m_multiplied, k_multiplied, b_multiplied⟩ := D_multiplied
  have hr_multiplied : Room 2 _ := hr.mono (by decide)
  obtain ⟨f_trimmed, fd_trimmed, g_trimmed, m_trimmed, k_trimmed, b_trimmed⟩ := D_trimmed
  have hr_trimmed : Room 1 _ := hr.mono (by decide)
  refine ⟨_, (pss_cons (ps_set (i := 3) sc_product_of.nd rfl (Or.inr rfl) (pe_ix (ixT (K := K)) (pe_call g_divided hr_divided rfl m_divided k_divided b_divided .nil pass0 (pa_cons (pe_call g_multiplied hr_multiplied rfl m_multiplied k_multiplied b_multiplied .nil pass0 (pa_cons (pe_call g_trimmed hr_trimmed rfl m_trimmed k_trimmed b_trimmed .nil pass0 (pa_cons (pv 1) pa_nil)) (pa_cons (pe_call g_trimmed hr_trimmed rfl m_trimmed k_trimmed b_trimmed .nil pass0 (pa_cons (pv 2) pa_nil)) pa_nil))) (pa_cons (pv 0) pa_nil))) pe_int (fun _ _ => rfl)))
      (pss_one (ps_ret (pe_lc (own := [("k", 4)]) (tt := tYes) rfl sc_product_of.nd (pi_range1 rfl T.b_range (pa_cons (pe_op op_sub (pe_callB (lenK (K := K)) (by rfl) T.b_len PySem.boot_len (pa_cons (pv 0) pa_nil)) pe_int) pa_nil)) (blkOk_by (N := ["f", "one", "other", "rest", "k"]) (sc := defScope s_product_of) (by decide +kernel)) (fun _ _ _ _ _ => (pg_name (i := 4) sc_product_of.nd rfl (Or.inl rfl))) (fun _ _ _ _ _ => pts_nil) (fun _ _ _ _ _ => (pe_call g_number_at hr_number_at rfl m_number_at k_number_at b_number_at .nil pass0 (pa_cons (pv 3) (pa_cons (pv 4) pa_nil)))))))), ?_⟩
  have F0 := Fr.start e
  have tx := trim_le x
  have ty := trim_le y
  have ml := mul_len (trim x) (trim y)
  refine st_set F0 (ev_snd (ev_call (Pre := DivPre) (F := fun x : L × L × Unit => dv x.1 x.2.1) (x := (mul (trim x) (trim y), ff, ())) (ea_cons (ev_call (Pre := MulPre) (F := fun x : L × L × Unit => mul x.1 x.2.1) (x := (trim x, trim y, ())) (ea_cons (ev_call (Pre := LenPre) (F := fun x : L × Unit => trim x.1) (x := (x, ())) (ea_cons (ev_var rfl hx) ea_nil) (by show x.length ≤ 1000; omega))
    (ea_cons (ev_call (Pre := LenPre) (F := fun x : L × Unit => trim x.1) (x := (y, ())) (ea_cons (ev_var rfl hy) ea_nil) (by show y.length ≤ 1000; omega)) ea_nil)) ⟨by dsimp only; omega, by dsimp only; omega, b, c, hB.trim, hC.trim, by omega⟩) (ea_cons (ev_var rfl hf) ea_nil)) ?_) ev_int) fun r G1 H1 F1 e1 d1 => ?_
  · refine ⟨by dsimp only; omega, by dsimp only; omega, by dsimp only; omega, b + c + 6, a, mul_bn hB.trim hC.trim (by omega), hA, ?_⟩
    dsimp only
    have : ((mul (trim x) (trim y)).length + 2 - ff.length) * (a + 1) ≤ 50 * (a + 1) := Nat.mul_le_mul_right _ (by omega)
    omega
  dsimp only at d1
  refine st_ret F1 (EvL.ev (el_lcR (n := (ff.length : Int) - 1) (ys := prodOf ff x y) (ea_cons (ev_I0 (ev_len (ev_var rfl (Den.mono e1 hf))) ev_int) ea_nil) ?_ (by omega) (by omega) (fun _ => rfl) fun i y' G' e' hy' => ?_)) fun v G6 H6 s6 d6 => q v G6 H6 s6 d6
  · rw [len_prodOf]; omega
  · obtain ⟨hi, rfl⟩ := range_at hy'
    exact ev_call (Pre := NaPre) (F := fun x : L × Int × Unit => at_ x.1 x.2.1.toNat) (x := ((dv (mul (trim x) (trim y)) ff).2, (i : Int), ())) (ea_cons (ev_var rfl (Den.mono e' d1)) (ea_cons (ev_var rfl rfl) ea_nil)) (by show (0 : Int) ≤ i; omega)
/-! ### size_at -/
abbrev s_size_at : Stmt := top 37
theorem sc_size_at : FnScope ["row", "d", "p", "most"] ["row", "d", "p", "most"] (defScope s_size_at) := ⟨rfl, rfl, rfl, by decide +kernel, rfl, by decide +kernel, by decide +kernel⟩
  -- slots 0:row 1:d 2:p 3:most
def SaPre (x : L × Int × Int × Int × Unit) : Prop := 0 ≤ x.2.1 ∧ x.2.1 < x.1.length ∧ 2 ≤ x.2.2.1 ∧ x.2.2.1 ≤ 1000
abbrev sp_size_at : Sp := SpF SaPre fun x : L × Int × Int × Int × Unit => sizeAt x.1 x.2.1.toNat x.2.2.1 x.2.2.2.1
theorem ok_size_at (T : Tx mg) (D_size_of_number : Df P w K mg base "size_of_number" 1 ["number", "p"] sp_size_of_number) {f : Addr} {fd : FuncData} (F : Fun K "size_at" "size_at" s_size_at f fd) : FnOk P w K mg base CX0 2 f fd ["row", "d", "p", "most"] sp_size_at := by
  refine F.ok sc_size_at (fun vs H Q E h => SpF.len h) (fun cdv A outer s H vs Q E hr h => ?_)
  obtain ⟨G, ⟨x, d, p, m, _⟩, e, ⟨u, _, rfl, hx, _, _, rfl, hd, _, _, rfl, hp, _, _, rfl, hm, rfl⟩, ⟨h1, h2, h3, h4⟩, q⟩ := h
  obtain rfl : _ = V.int d := hd
  obtain rfl : _ = V.int p := hp
  obtain rfl : _ = V.int m := hm
  dsimp only at hx q h1 h2 h3 h4
  obtain ⟨f_size_of_number, fd_size_of_number, g_size_of_number, m_size_of_number, k_size_of_number, b_size_of_number⟩ := D_size_of_number
  have hr_size_of_number : Room 1 _ := hr.mono (by decide)
  refine ⟨_, (pss_cons (ps_if (pt_cmpR op_eq (pe_ix (ixL (K := K)) (pv 0) (pv 1) (fun _ _ => rfl)) pe_int (nomark _)) (pss_one (ps_ret (pv 3))) pss_nil)
      (pss_one (ps_ret (pe_callB (call_min2 rfl) (by rfl) T.b_min (by decide +kernel) (pa_cons (pv 3) (pa_cons (pe_call g_size_of_number hr_size_of_number rfl m_size_of_number k_size_of_number b_size_of_number .nil pass0 (pa_cons (pe_ix (ixL (K := K)) (pv 0) (pv 1) (fun _ _ => rfl)) (pa_cons (pv 2) pa_nil))) pa_nil)))))), ?_⟩
  have F0 := Fr.start e
  refine st_if F0 (et_test (ev_eqI (ev_ixI (k := d.toNat) (ev_var rfl hx) (ev_var rfl rfl) (by omega) (by omega)) ev_int)) (fun hb G1 H1 F1 e1 => ?_) (fun hb G1 H1 F1 e1 => ?_)
  · have hb : at_ x d.toNat = 0 := of_decide_eq_true hb
    refine st_ret F1 (ev_var (x := m) rfl rfl) fun v G3 H3 s3 d3 => q v G3 H3 s3 ?_
    unfold sizeAt; rw [if_pos hb]; exact d3
  · have hb : at_ x d.toNat ≠ 0 := of_decide_eq_false hb
    refine nxt ?_
    dsimp only
    refine st_ret F1 (ev_min (ev_var (x := m) rfl rfl) (ev_unsome ((ev_call (Pre := SzPre) (F := fun x : Int × Int × Unit => if x.1 = 0 then none else some (sz x.1 x.2.1)) (x := (at_ x d.toNat, p, ())) (ea_cons (ev_ixI (k := d.toNat) (ev_var rfl (Den.mono e1 hx)) (ev_var rfl rfl) (by omega) (by omega)) (ea_cons (ev_var rfl rfl) ea_nil)) ⟨h3, h4⟩).cast (by dsimp only; rw [if_neg hb])))) fun v G3 H3 s3 d3 => q v G3 H3 s3 ?_
    unfold sizeAt; rw [if_neg hb]; exact d3
/-! ### lifted -/
abbrev s_lifted : Stmt := top 38
theorem sc_lifted : FnScope ["row", "d", "a", "p", "big", "unit", "back", "number"] ["row", "d", "a", "p", "big"] (defScope s_lifted) := ⟨rfl, rfl, rfl, by decide +kernel, rfl, by decide +kernel, by decide +kernel⟩
  -- slots 0:row 1:d 2:a 3:p 4:big 5:unit 6:back 7:number
def LiPre (x : L × Int × Int × Int × Int × Unit) : Prop := 0 ≤ x.2.1 ∧ x.2.1 < x.1.length ∧ x.1.length ≤ 100 ∧ 0 ≤ x.2.2.1 ∧ x.2.2.1 ≤ 500 ∧ 0 < x.2.2.2.1 ∧ x.2.2.2.1 ≤ 47 ∧ 0 < x.2.2.2.2.1 ∧ x.2.2.2.2.1 ≤ 2 ^ 8000 ∧ Bn 9000 x.1
abbrev sp_lifted : Sp := SpF LiPre fun x : L × Int × Int × Int × Int × Unit => lifted x.1 x.2.1.toNat x.2.2.1 x.2.2.2.1 x.2.2.2.2.1
theorem nat8000 {m : Int} (h0 : 0 ≤ m) (h : m ≤ 2 ^ 8000) : m.natAbs ≤ 2 ^ 8000 := by
  have e8 : ((2 ^ 8000 : Nat) : Int) = (2 : Int) ^ 8000 := Int.natCast_pow 2 8000
  omega
theorem pw_sz {p k : Int} (h : p.natAbs ≤ 47) (h2 : k ≤ 500) : (pw p k).natAbs ≤ 2 ^ 3000 := by
  unfold pw
  exact Nat.le_trans (pow_sz h _) (Nat.pow_le_pow_right (by omega) (by omega))
theorem ok_lifted (T : Tx mg) (D_inverse : Df P w K mg base "inverse" 1 ["number", "modulus"] sp_inverse) (D_power_of : Df P w K mg base "power_of" 1 ["number", "many"] sp_power_of) {f : Addr} {fd : FuncData} (F : Fun K "lifted" "lifted" s_lifted f fd) : FnOk P w K mg base CX0 2 f fd ["row", "d", "a", "p", "big"] sp_lifted := by
  refine F.ok sc_lifted (fun vs H Q E h => SpF.len h) (fun cdv A outer s H vs Q E hr h => ?_)
  obtain ⟨G, ⟨x, d, a, p, m, _⟩, e, ⟨u, _, rfl, hx, _, _, rfl, hd, _, _, rfl, ha, _, _, rfl, hp, _, _, rfl, hm, rfl⟩, ⟨h1, h2, h3, h4, h5, h6, h7, h8, h9, hB⟩, q⟩ := h
  obtain rfl : _ = V.int d := hd
  obtain rfl : _ = V.int a := ha
  obtain rfl : _ = V.int p := hp
  obtain rfl : _ = V.int m := hm
  dsimp only at hx q h1 h2 h3 h4 h5 h6 h7 h8 h9 hB
  obtain ⟨f_inverse, fd_inverse, g_inverse, m_inverse, k_inverse, b_inverse⟩ := D_inverse
  have hr_inverse : Room 1 _ := hr.mono (by decide)
  obtain ⟨f_power_of, fd_power_of, g_power_of, m_power_of, k_power_of, b_power_of⟩ := D_power_of
  have hr_power_of : Room 1 _ := hr.mono (by decide)
  refine ⟨_, (pss_cons (ps_set (i := 5) sc_lifted.nd rfl (Or.inl rfl) (pe_op op_fdivZ (pe_ix (ixL (K := K)) (pv 0) (pv 1) (fun _ _ => rfl)) (pe_call g_power_of hr_power_of rfl m_power_of k_power_of b_power_of .nil pass0 (pa_cons (pv 3) (pa_cons (pv 2) pa_nil)))))
      (pss_cons (ps_set (i := 6) sc_lifted.nd rfl (Or.inr rfl) (pe_call g_inverse hr_inverse rfl m_inverse k_inverse b_inverse .nil pass0 (pa_cons (pv 5) (pa_cons (pv 4) pa_nil))))
      (pss_one (ps_ret (pe_lc (own := [("number", 7)]) (tt := tYes) rfl sc_lifted.nd (pi_listK (K := K) (pv 0)) (blkOk_by (N := ["row", "d", "a", "p", "big", "unit", "back", "number"]) (sc := defScope s_lifted) (by decide +kernel)) (fun _ _ _ _ _ => (pg_name (i := 7) sc_lifted.nd rfl (Or.inl rfl))) (fun _ _ _ _ _ => pts_nil) (fun _ _ _ _ _ => (pe_op op_mod (pe_op op_mulW (pv 7) (pv 6)) (pv 4)))))))), ?_⟩
  have F0 := Fr.start e
  have hpp := pw_pos h6 a
  refine st_setI F0 (ev_I (ev_ixI (k := d.toNat) (ev_var rfl hx) (ev_var rfl rfl) (by omega) (by omega)) (ev_call (Pre := PwPre) (F := fun x : Int × Int × Unit => pw x.1 x.2.1) (x := (p, a, ())) (ea_cons (ev_var rfl rfl) (ea_cons (ev_var rfl rfl) ea_nil)) ⟨by dsimp only; omega, h4, h5⟩) (cdiv (by dsimp only; omega) (pw_sz (by omega) h5) (by omega))) fun G1 H1 F1 e1 => ?_
  dsimp only
  rw [fdivE (by omega)]
  refine st_setI F1 (ev_call (Pre := InvPre) (F := fun x : Int × Int × Unit => inv x.1 x.2.1) (x := (at_ x d.toNat / pw p a, m, ())) (ea_cons (ev_var rfl rfl) (ea_cons (ev_var rfl rfl) ea_nil)) ⟨h8, h9⟩) fun G2 H2 F2 e2 => ?_
  dsimp only
  have hi := inv_range (x := at_ x d.toNat / pw p a) h8
  have hi2 : (inv (at_ x d.toNat / pw p a) m).natAbs ≤ 2 ^ 8000 := nat8000 hi.1 (by omega)
  refine st_ret F2 (EvL.ev (el_lc (xs := x) (ys := lifted x d.toNat a p m) (ev_var rfl (Den.mono F2.s.g hx)) (by simp [lifted]) (by omega) fun i z y' v' G' e' hz hy' dz => ?_)) fun v G6 H6 s6 d6 => q v G6 H6 s6 d6
  obtain rfl : v' = V.int z := dz
  have := map_at hz hy'
  subst this
  have hzb : z.natAbs ≤ 2 ^ 9000 := by
    have := hB i
    unfold at_ at this
    rw [List.getD_eq_getElem?_getD, hz] at this; exact this
  exact tn_name rfl (ev_I (ev_I (ev_var (x := z) rfl rfl) (ev_var rfl rfl) (cmul hzb hi2 (by omega))) (ev_var rfl rfl) (by show 0 < m; exact h8))
/-! ### over_all -/
abbrev s_over_all : Stmt := top 42
theorem sc_over_all : FnScope ["basis", "n", "p", "most", "rows", "g", "k", "by", "j"] ["basis", "n", "p", "most"] (defScope s_over_all) := ⟨rfl, rfl, rfl, by decide +kernel, rfl, by decide +kernel, by decide +kernel⟩
  -- slots 0:basis 1:n 2:p 3:most 4:rows 5:g 6:k 7:by 8:j
def OaPre (x : B × Int × Int × Int × Unit) : Prop := x.1.length ≤ 100 ∧ 0 ≤ x.2.1 ∧ x.2.1 ≤ 100 ∧ 0 < x.2.2.1 ∧ x.2.2.1 ≤ 47 ∧ (∀ gk ∈ x.1, 0 ≤ x.2.2.2.1 - gk.2 ∧ x.2.2.2.1 - gk.2 ≤ 500 ∧ Bn 9000 gk.1)
abbrev sp_over_all : Sp := SpF OaPre fun x : B × Int × Int × Int × Unit => overAll x.1 x.2.1.toNat x.2.2.1 x.2.2.2.1
theorem ok_over_all (T : Tx mg) (D_number_at : Df P w K mg base "number_at" 1 ["f", "k"] sp_number_at) (D_power_of : Df P w K mg base "power_of" 1 ["number", "many"] sp_power_of) {f : Addr} {fd : FuncData} (F : Fun K "over_all" "over_all" s_over_all f fd) : FnOk P w K mg base CX0 2 f fd ["basis", "n", "p", "most"] sp_over_all := by
  refine F.ok sc_over_all (fun vs H Q E h => SpF.len h) (fun cdv A outer s H vs Q E hr h => ?_)
  obtain ⟨G, ⟨b, n, p, m, _⟩, e, ⟨u, _, rfl, hb, _, _, rfl, hn, _, _, rfl, hp, _, _, rfl, hm, rfl⟩, ⟨h1, h2, h3, h4, h5, h6⟩, q⟩ := h
  obtain rfl : _ = V.int n := hn
  obtain rfl : _ = V.int p := hp
  obtain rfl : _ = V.int m := hm
  dsimp only at hb q h1 h2 h3 h4 h5 h6
  obtain ⟨f_number_at, fd_number_at, g_number_at, m_number_at, k_number_at, b_number_at⟩ := D_number_at
  have hr_number_at : Room 1 _ := hr.mono (by decide)
  obtain ⟨f_power_of, fd_power_of, g_power_of, m_power_of, k_power_of, b_power_of⟩ := D_power_of
  have hr_power_of : Room 1 _ := hr.mono (by decide)
  refine ⟨_, (pss_cons (ps_set (i := 4) sc_over_all.nd rfl (Or.inl rfl) (pe_lst pa_nil))
      (pss_cons (ps_for PassesOwn.never rfl (pi_listK (K := K) (pv 0)) (pg_tupK (K := K) (n := 2) rfl (pgs_cons (pg_name (i := 5) sc_over_all.nd rfl (Or.inr rfl)) (pgs_cons (pg_name (i := 6) sc_over_all.nd rfl (Or.inl rfl)) pgs_nil))) (pss_cons (ps_set (i := 7) sc_over_all.nd rfl (Or.inr rfl) (pe_call g_power_of hr_power_of rfl m_power_of k_power_of b_power_of .nil pass0 (pa_cons (pv 2) (pa_cons (pe_op op_sub (pv 3) (pv 6)) pa_nil))))
      (pss_one (ps_expr (pe_bm PySem.F.plainAttrs_list PySem.F.slot_list_append PySem.F.type_list_append mt_append (pv 4) (pa_cons (pe_lc (own := [("j", 8)]) (tt := tYes) rfl sc_over_all.nd (pi_range1 rfl T.b_range (pa_cons (pv 1) pa_nil)) (blkOk_by (N := ["basis", "n", "p", "most", "rows", "g", "k", "by", "j"]) (sc := defScope s_over_all) (by decide +kernel)) (fun _ _ _ _ _ => (pg_name (i := 8) sc_over_all.nd rfl (Or.inl rfl))) (fun _ _ _ _ _ => pts_nil) (fun _ _ _ _ _ => (pe_op op_mulW (pv 7) (pe_call g_number_at hr_number_at rfl m_number_at k_number_at b_number_at .nil pass0 (pa_cons (pv 5) (pa_cons (pv 8) pa_nil)))))) pa_nil))))))
      (pss_one (ps_ret (pv 4))))), ?_⟩
  have F0 := Fr.start e
  refine st_setL F0 (el_nil (α := L)) fun l vs0 G1 H1 F1 e1 d0 => ?_
  cases d0
  refine st_forX F1 (ev_var rfl (Den.mono e1 hb)) (fun Gs i G' σ H' => Same Gs G' ∧ ∃ vs g k by_, Fr G H G' ((l, vs) :: []) H' ∧ Paired (Den.D G') vs ((overAll b n.toNat p m).take i) ∧ σ = [some u, some (.int n), some (.int p), some (.int m), some (.ref l), g, k, by_, none])
    (fun Gs i G' σ H' ⟨s1, vs, g, k, by_, F', _⟩ => ⟨s1, F'.o.i⟩) (fun G2 H2 F2 e2 => ⟨Same.refl _, [], none, none, none, F2, by rw [List.take_zero]; exact .nil, rfl⟩) ?_ ?_
  · rintro Gs i ⟨g, k⟩ v G' σ H' eG hi dv ⟨s1, vs, g0, k0, by0, F', hvs, rfl⟩
    obtain ⟨a0, v1, v2, rfl, q1, q2, q3⟩ := Den.mono s1 dv
    obtain rfl : v2 = V.int k := q3
    dsimp only at q2
    have hmem : (g, k) ∈ b := List.mem_iff_getElem?.mpr ⟨i, hi⟩
    obtain ⟨b1, b2, b3⟩ := h6 _ hmem
    dsimp only at b1 b2 b3
    refine ⟨a0, [v1, .int k], rfl, SqT.of (F'.o.i _ _ q1), rfl, v1, [.int k], rfl, .int k, [], rfl, rfl, ?_⟩
    have hpp := pw_sz (p := p) (k := m - k) (by omega) b2
    refine st_setI F' (ev_call (Pre := PwPre) (F := fun x : Int × Int × Unit => pw x.1 x.2.1) (x := (p, m - k, ())) (ea_cons (ev_var rfl rfl) (ea_cons (ev_I0 (ev_var rfl rfl) (ev_var (x := k) rfl rfl)) ea_nil)) ⟨by dsimp only; omega, b1, b2⟩) fun G2 H2 F2 e2 => ?_
    dsimp only
    refine st_app F2 rfl (EvL.ev (el_lcR (n := n) (ys := tab n.toNat fun j => pw p (m - k) * at_ g j) (ea_cons (ev_var rfl rfl) ea_nil) (by rw [len_tab]) (by omega) (by omega) (fun _ => rfl) fun j y' G'' e'' hy' => ?_)) ?_ fun v' G3 H3 F3 e3 d3 => ?_
    · obtain ⟨hj, rfl⟩ := range_at hy'
      exact ev_I (ev_var (x := pw p (m - k)) rfl rfl) (ev_call (Pre := NaPre) (F := fun x : L × Int × Unit => at_ x.1 x.2.1.toNat) (x := (g, (j : Int), ())) (ea_cons (ev_var rfl (Den.mono (e2.trans e'') q2)) (ea_cons (ev_var rfl rfl) ea_nil)) (by show (0 : Int) ≤ j; omega)) (cmul (a := 3000) (b := 9000) hpp (b3 j) (by decide))
    · rw [Paired.len hvs, List.length_take]
      have : i < b.length := (List.getElem?_eq_some_iff.mp hi).1
      clear hpp b2
      omega
    · refine ⟨G3, (s1.trans e2).trans e3, vs ++ [v'], some v1, some (.int k), some (.int (pw p (m - k))), F3, ?_, rfl⟩
      have : (overAll b n.toNat p m).take (i + 1) = (overAll b n.toNat p m).take i ++ [tab n.toNat fun j => pw p (m - k) * at_ g j] := by
        rw [List.take_add_one]
        unfold overAll
        rw [List.getElem?_map, hi]; rfl
      rw [this]
      exact Paired.app (Paired.imp (fun _ _ z => Den.mono (e2.trans e3) z) hvs) (.cons d3 .nil)
  · rintro Gs G' σ H' eG ⟨s1, vs, g0, k0, by0, F', hvs, rfl⟩
    refine st_reto F' rfl (xs := overAll b n.toNat p m) ?_ fun v G6 H6 s6 d6 => q v G6 H6 s6 d6
    rwa [List.take_of_length_le (by simp [overAll])] at hvs
end
end Bw
set_option Elab.async false
set_option linter.all false
set_option maxRecDepth 100000
set_option maxHeartbeats 4000000
namespace Bw
open PySem PySem.Spec PyProof.Rows L2 Bd RT
/-! ### list(reversed(x)) -/
section
variable {prog : Program} {w : World} {A : Around} {E : Value → Shared → Prop} {s : Shared}
theorem extend_rev {R : Result → Shared → Prop} {it l : Addr} {items : Array Value} (hh : A.handled = none) (hit : s.heap.IsRevIter it l ((items.size : Int) - 1)) (hl : s.heap.IsList l items) (hne : l ≠ it) (hn : items.size ≤ sizeLine)
    (S : Addr) (res : Value) (c₀ : Nat) (hS : s.heap.get? S = some { cls := .type "list", data := .seq #[] c₀ }) (hSi : S ≠ it) (hSl : S ≠ l)
    (hR : ∀ h' tk acc' c', (∀ b o, b ≠ S → b ≠ it → s.heap.get? b = some o → h'.get? b = some o) → h'.get? S = some { cls := .type "list", dict := none, data := .seq acc' c', slots := #[] } →
      ItemsOf (fun i v => items[items.size - 1 - i]? = some v) acc' items.size → R (.ok (.ret res)) { s with heap := h', toks := tk }) :
    wpAny (model prog w) A.in1 (Builtin.List.listExtendWith (.ref S) (.ref it) res)
      (fun fin s' => match fin with | .done f => R (.ok f) s' | .again c' => c'.quiet = true ∧ codeAny (model prog w) A c' R s') (fun e s' => R (.error e) s') s := by
  have W := (Walks.listRev (prog := prog) (w := w) (A := A.in1) hh it l hne items).toS
  have hSf : S ∉ [it, l] := by simp only [List.mem_cons, List.not_mem_nil, or_false, not_or]; exact ⟨hSi, hSl⟩
  have hT : s.TypeIs (.ref it) "list_reverseiterator" := hit.typeIs
  have h1 : Builtin.List.listSameRef (.ref S) (.ref it) = false := by simp [Builtin.List.listSameRef, hSi]
  unfold Builtin.List.listExtendWith
  refine wpAny_bind (wpAny_typeOf hT ?_)
  rw [if_neg (by rw [h1]; decide)]
  refine wpAny_bind (wpAny_pyIter_revIter hit ?_)
  refine wpAny_bind (wpAny_holding ?_)
  unfold Builtin.List.listLengthHint
  refine wpAny_bind (wpAny_specialOf hT nolen_lri ?_)
  show wpAny _ A.in1 (specialOf (Value.ref it) (Str.ofString "__length_hint__") >>= _) _ _ _
  refine wpAny_bind (wpAny_specialOf hT hint_lri ?_)
  generalize hid : ("list_reverseiterator.__length_hint__" : String) = id0
  wp_delta
  rw [show splitId id0 = some ("list_reverseiterator", "__length_hint__") from by subst hid; decide +kernel]
  subst hid
  refine wpAny_bind (wpAny_isInstance (b := true) hT (by rw [isSubtype_type]; kernel_rfl) ?_)
  refine wpAny_pure ?_
  rw [if_neg (by decide)]
  have e0 : ((items.size : Nat) : Int) - 1 - ((0 : Nat) : Int) = (items.size : Int) - 1 := by omega
  refine wpAny_pure ⟨plainId_quiet F.plain_extend_loop _, codeAny_extend_loopS W hn _ hSf res items.size 0 _ _ _ rfl (Nat.zero_le _) ⟨Nat.zero_le _, by rw [e0]; exact hit, hl⟩ hS (ItemsOf.nil _) fun s' acc' c' hm hS' hacc => ?_⟩
  rw [Moved.eq_with hm]
  refine hR s'.heap s'.toks acc' c' (fun b o hb hb2 e => hm.heap b o (fun hmem => ?_) e) hS' hacc
  rcases List.mem_cons.mp hmem with e' | hmem
  · exact hb e'
  · exact hb2 (List.mem_singleton.mp hmem)
theorem list_init_rev {R : Result → Shared → Prop} {it l : Addr} {items : Array Value} (hh : A.handled = none) (hit : s.heap.IsRevIter it l ((items.size : Int) - 1)) (hl : s.heap.IsList l items) (hne : l ≠ it) (hn : items.size ≤ sizeLine)
    (S : Addr) (hS : s.heap.get? S = some { cls := .type "list", data := .seq #[] }) (hSi : S ≠ it) (hSl : S ≠ l)
    (hR : ∀ h' tk acc' c', (∀ b o, b ≠ S → b ≠ it → s.heap.get? b = some o → h'.get? b = some o) → h'.get? S = some { cls := .type "list", dict := none, data := .seq acc' c', slots := #[] } →
      ItemsOf (fun i v => items[items.size - 1 - i]? = some v) acc' items.size → R (.ok (.ret .none)) { s with heap := h', toks := tk }) :
    wpAny (model prog w) A.in1 (Builtin.«list.__init__» ⟨[.ref S, .ref it], []⟩)
      (fun fin s' => match fin with | .done f => R (.ok f) s' | .again c' => c'.quiet = true ∧ codeAny (model prog w) A c' R s') (fun e s' => R (.error e) s') s := by
  show wpAny _ _ (do let old ← Builtin.List.listItems (.ref S); Builtin.List.listUpdate (.ref S) (fun _ => #[]); letGo old.toList.reverse; Builtin.List.listExtendWith (.ref S) (.ref it) .none) _ _ s
  refine wpAny_bind ?_
  unfold Builtin.List.listItems
  refine wpAny_bind (wpAny_seqItems hS rfl (wpAny_pure ?_))
  show wpAny _ _ (updateSeq S (fun _ => #[]) >>= fun _ => letGo (#[] : Array Value).toList.reverse >>= fun _ => Builtin.List.listExtendWith (.ref S) (.ref it) .none) _ _ s
  refine wpAny_bind (wpAny_updateSeq hS rfl ?_)
  have hS₂ := Heap.get?_update_self (Obj.mapSeq (fun _ => (#[] : Array Value))) hS rfl
  have oth : ∀ b o, b ≠ S → s.heap.get? b = some o → (s.heap.update S (Obj.mapSeq (fun _ => (#[] : Array Value)))).get? b = some o :=
    fun b o hb e => (Heap.get?_update_other _ _ (Ne.symm hb)).trans e
  refine wpAny_bind (wpAny_letGo ?_)
  have hit2 : (s.heap.update S (Obj.mapSeq (fun _ => (#[] : Array Value)))).IsRevIter it l ((items.size : Int) - 1) := hit.at fun o e => oth it o (Ne.symm hSi) e
  have hl2 : (s.heap.update S (Obj.mapSeq (fun _ => (#[] : Array Value)))).IsList l items := by
    obtain ⟨o, ho, hc⟩ := id hl
    exact ⟨o, oth l o (Ne.symm hSl) ho, hc⟩
  refine extend_rev hh hit2 hl2 hne hn S .none _ hS₂ hSi hSl fun h' tk acc' c' hk hS' hacc => ?_
  exact hR h' tk acc' c' (fun b o hb hb2 e => hk b o hb hb2 (oth b o hb e)) hS' hacc
theorem call_list_rev {Q : Value → Shared → Prop} {it l : Addr} {items : Array Value} (hh : A.handled = none) (hit : s.heap.IsRevIter it l ((items.size : Int) - 1)) (hl : s.heap.IsList l items) (hne : l ≠ it) (hn : items.size ≤ sizeLine)
    (hQ : ∀ h' tk acc' c', (∀ b o, b ≠ it → s.heap.get? b = some o → h'.get? b = some o) →
      h'.get? s.heap.objs.size = some { cls := .type "list", dict := none, data := .seq acc' c', slots := #[] } → ItemsOf (fun i v => items[items.size - 1 - i]? = some v) acc' items.size → Q (.ref s.heap.objs.size) { s with heap := h', toks := tk }) :
    wpAny (model prog w) A (call (.type "list") [.ref it]) Q E s := by
  refine callType_codes (Q₁ := fun obj s₁ => obj = .ref s.heap.objs.size ∧ s₁ = { s with heap := s.heap.push { cls := .type "list", data := .seq #[] } }) F.called_list (F.typeCall_list_1 _) F.entry_list_init
    (code_list_new _ ⟨rfl, rfl⟩) fun obj s₁ h₁ => ?_
  obtain ⟨rfl, rfl⟩ := h₁
  have hS : (s.heap.push { cls := .type "list", data := .seq #[] }).get? s.heap.objs.size = some { cls := .type "list", data := .seq #[] } := Heap.get?_push_size _ rfl
  obtain ⟨oi, hoi, _⟩ := id hit
  obtain ⟨ol, hol, _⟩ := id hl
  refine ⟨⟨_, hS, rfl⟩, F.args_list_init_2 _ _, list_init_rev (A := A.in1) hh (hit.at fun o e => Heap.get?_push_of_some _ e) (hl.push _) hne hn _ hS (Nat.ne_of_gt (Heap.lt_size hoi)) (Nat.ne_of_gt (Heap.lt_size hol)) fun h' tk acc' c' hk hS' hacc => ?_⟩
  exact ⟨rfl, hQ h' tk acc' c' (fun b o hb e => hk b o (Nat.ne_of_lt (Heap.lt_size e)) hb (Heap.get?_push_of_some _ e)) hS' hacc⟩
end
def tListRev (K : PySem.W.Frag) (te : TE) : TE := fun σ H Q => te σ H fun v H1 => ∃ (a : Addr) (xs : List V), v = .ref a ∧ SqL K H1 a xs ∧ ∀ q, H1 q = none → Q (.ref q) (upd H1 q (.lst xs.reverse))
section
variable {X : Cx}
theorem pe_listRev {e : Expr} {te : TE} {p p2 pos pos2 : Pos} {K : PySem.W.Frag} (hc : X.calm = true) (hg : Gl X "list") (hm : X.mg "list" = none) (hg2 : Gl X "reversed") (hm2 : X.mg "reversed" = none) (he : PE X e te) (hK : X.K = K := by rfl)
    (hs : starEach [e] X.env = (false, eval e X.env) :: starEach [] X.env := by rfl)
    (hs2 : starEach [.Call (.Name "reversed" p2) [e] [] pos2] X.env = (false, eval (.Call (.Name "reversed" p2) [e] [] pos2) X.env) :: starEach [] X.env := by rfl) :
    PE X (.Call (.Name "list" p) [.Call (.Name "reversed" p2) [e] [] pos2] [] pos) (tListRev K te) := by
  subst hK
  refine ⟨fun pins s σ H Q I h => ?_⟩
  refine Call_ (ld_blt I hg hm (show bootBuiltins "list" = some (.type "list") by decide +kernel) (PyProof.Rows.callWith_type1 (args_cons (Call_ (ld_blt I hg2 hm2 PyProof.Rows.boot_reversed (PyProof.Rows.callWith_type1 (args_cons (thn (he.run pins s σ H _ I h) fun u s1 ⟨v, H1, I1, r1, q1⟩ => args_nil ?_) hs) hs rfl))) hs2) hs2 rfl))
  obtain ⟨a, xs, ev, hq, q⟩ := q1
  subst ev
  obtain rfl : u = Value.ref a := r1
  obtain ⟨its, rv, p', hz⟩ := I1.list hq
  refine call_reversed_list p'.isList (args_nil ?_)
  have k0 : ∀ b o, s1.heap.get? b = some o → (s1.heap.push (revObj a ((its.toArray.size : Int) - 1))).get? b = some o := fun b o e => Heap.get?_push_of_some _ e
  have I2 : Inv X pins σ H1 { s1 with heap := s1.heap.push (revObj a ((its.toArray.size : Int) - 1)) } := I1.kept (t' := s1.toks) k0
  obtain ⟨f0, f1, f2, f3, f4, f5⟩ := I1.fpOk (H' := H1) (b := s1.heap.objs.size) (Nat.le_refl _) (I1.hok.fresh (Nat.le_refl _))
  have hl := p'.isList
  obtain ⟨ol, hol, _⟩ := id hl
  have hne : a ≠ s1.heap.objs.size := Nat.ne_of_lt (Heap.lt_size hol)
  have hn : its.toArray.size ≤ sizeLine := by rw [List.size_toArray, ← rv.length]; exact hz
  refine call_list_rev (s := { s1 with heap := s1.heap.push (revObj a ((its.toArray.size : Int) - 1)) }) (I1.ok.hd hc) ⟨_, Heap.get?_push_size _ rfl, rfl, rfl⟩ (hl.push _) hne hn fun h' tk acc c' hk hS hi => ?_
  have hsz : s1.heap.objs.size ≤ (s1.heap.push (revObj a ((its.toArray.size : Int) - 1))).objs.size := by unfold Heap.push; simp
  have hn0 : H1 (s1.heap.push (revObj a ((its.toArray.size : Int) - 1))).objs.size = none := I1.hok.fresh hsz
  have I3 : Inv X pins σ (upd H1 (s1.heap.push (revObj a ((its.toArray.size : Int) - 1))).objs.size (.lst xs.reverse)) { s1 with heap := h', toks := tk } :=
    Inv.turnedNew (t' := tk) (ch := [s1.heap.objs.size]) I1 (fun b o hb e => hk b o (fun z => hb (by rw [z]; exact List.mem_singleton.mpr rfl)) (k0 b o e)) (fun b hb => by
      obtain rfl : b = s1.heap.objs.size := List.mem_singleton.mp hb
      exact ⟨f0, f1, f2, f3, f4, f5⟩) hsz ⟨by rw [List.length_reverse]; exact hz, acc.toList, c', vals_rev rv hi, by rw [Array.toArray_toList]; exact hS⟩
  exact ⟨.ref (s1.heap.push (revObj a ((its.toArray.size : Int) - 1))).objs.size, _, I3, rfl, q _ hn0⟩
end
/-- the list turned round -/
theorem el_listRev {α : Type} [Den α] {K : PySem.W.Frag} {σ : L2.St} {G : Hp} {L : Ls} {te : TE} {xs : List α} (h : Ev te σ G L xs) : EvL (tListRev K te) σ G L xs.reverse := fun G1 H1 e o Q q =>
  h G1 H1 e o _ fun v G2 H2 s2 d2 => by
    obtain ⟨a, vs, rfl, h1, h2⟩ := d2
    exact ⟨a, vs, rfl, SqL.of (s2.i _ _ h1), fun p hp => q p _ G2 H2 s2 hp (Paired.rev h2)⟩
/-- .. an own list -/
theorem el_listRevo {α : Type} [Den α] {K : PySem.W.Frag} {σ : L2.St} {G : Hp} {L : Ls} {j : Nat} {l : Addr} {vs : List V} {xs : List α} (hs : σ[j]? = some (some (.ref l))) (hl : (l, vs) ∈ L) (hx : Paired (Den.D G) vs xs) : EvL (tListRev K (tVar j)) σ G L xs.reverse := fun G1 H1 e o Q q =>
  ⟨_, hs, l, vs, rfl, SqL.of (o.l _ hl).2, fun p hp => q p _ G1 H1 (Step.refl o.i) hp (Paired.rev (Paired.imp (fun _ _ z => Den.mono e z) hx))⟩
end Bw
set_option Elab.async false
set_option linter.all false
set_option maxRecDepth 100000
set_option maxHeartbeats 4000000
namespace Bw
open PySem L2 Bd
theorem maxL_eq {l : L} {m : Int} (h : m ∈ l) (h2 : ∀ y, y ∈ l → y ≤ m) : m = maxL l := by
  have key : ∀ (l : L) (a : Int), (∀ y ∈ l, y ≤ l.foldl max a) ∧ a ≤ l.foldl max a ∧ (l.foldl max a = a ∨ l.foldl max a ∈ l) := by
    intro l
    induction l with
    | nil => intro a; simp
    | cons x l ih =>
      intro a
      obtain ⟨i1, i2, i3⟩ := ih (max a x)
      rw [List.foldl_cons]
      refine ⟨fun y hy => ?_, by omega, ?_⟩
      · rcases List.mem_cons.mp hy with rfl | hy
        · omega
        · exact i1 y hy
      · rcases i3 with i3 | i3
        · rw [i3]
          rcases Int.le_total a x with c | c
          · right; rw [Int.max_eq_right c]; exact List.mem_cons_self
          · left; rw [Int.max_eq_left c]
        · right; exact List.mem_cons_of_mem _ i3
  obtain ⟨k1, k2, k3⟩ := key l (l.headD 0)
  cases l with
  | nil => cases h
  | cons x l =>
    unfold maxL
    have a1 := k1 m h
    have a2 : (x :: l).foldl max ((x :: l).headD 0) ≤ m := by
      rcases k3 with k3 | k3
      · rw [k3]; exact h2 _ (by show x ∈ _; exact List.mem_cons_self)
      · exact h2 _ k3
    omega
theorem ev_maxL {K : PySem.W.Frag} {σ : L2.St} {G : Hp} {L : Ls} {ta : TE} {ns : List Int} (ha : Ev ta σ G L ns) (hn : 0 < ns.length) : Ev (tCB (rMax K) (tCons ta tNil)) σ G L (maxL ns) := fun G1 H1 e o Q q =>
  ha G1 H1 e o _ fun v G2 H2 s2 d2 => by
    obtain ⟨a, vs, rfl, h1, h2⟩ := d2
    rw [d_ints.mp h2] at h1
    refine ⟨a, ns, rfl, SqL.of (s2.i _ _ h1), hn, fun m hm hge => q _ G2 H2 s2 ?_⟩
    show V.int m = V.int _
    rw [maxL_eq hm hge]
theorem ev_allB {K : PySem.W.Frag} {σ : L2.St} {G : Hp} {L : Ls} {ta : TE} {bs : List Bool} (ha : Ev ta σ G L bs) : Ev (tCB (rAll K) (tCons ta tNil)) σ G L (bs.all id) := fun G1 H1 e o Q q =>
  ha G1 H1 e o _ fun v G2 H2 s2 d2 => by
    obtain ⟨a, vs, rfl, h1, h2⟩ := d2
    have : vs = bs.map V.bl := by
      clear h1 ha s2 q
      induction h2 with
      | nil => rfl
      | cons r _ ih => rw [List.map_cons, ← ih, show _ = V.bl _ from r]
    rw [this] at h1
    exact ⟨a, bs, rfl, SqL.of (s2.i _ _ h1), q _ G2 H2 s2 rfl⟩
section
variable {P : Program} {w : World} {K : PySem.W.Frag} {mg : Str → Option Value} {base : Heap}
/-! ### greatest_power -/
abbrev s_greatest_power : Stmt := top 41
theorem sc_greatest_power : FnScope ["basis", "g", "k"] ["basis"] (defScope s_greatest_power) := ⟨rfl, rfl, rfl, by decide +kernel, rfl, by decide +kernel, by decide +kernel⟩
  -- slots 0:basis 1:g 2:k
def GpPre (x : B × Unit) : Prop := 0 < x.1.length ∧ x.1.length ≤ 100
abbrev sp_greatest_power : Sp := SpF GpPre fun x : B × Unit => Bd.top x.1
theorem ok_greatest_power (T : Tx mg)  {f : Addr} {fd : FuncData} (F : Fun K "greatest_power" "greatest_power" s_greatest_power f fd) : FnOk P w K mg base CX0 1 f fd ["basis"] sp_greatest_power := by
  refine F.ok sc_greatest_power (fun vs H Q E h => SpF.len h) (fun cdv A outer s H vs Q E hr h => ?_)
  obtain ⟨G, ⟨b, _⟩, e, ⟨u, _, rfl, hb, rfl⟩, ⟨h1, h2⟩, q⟩ := h
  dsimp only at hb q h1 h2
  
  refine ⟨_, (pss_one (ps_ret (pe_callB (cr_max rfl) (by rfl) T.b_max (by decide +kernel) (pa_cons (pe_lc (own := [("g", 1), ("k", 2)]) (tt := tYes) rfl sc_greatest_power.nd (pi_listK (K := K) (pv 0)) (blkOk_by (N := ["basis", "g", "k"]) (sc := defScope s_greatest_power) (by decide +kernel)) (fun _ _ _ _ _ => (pg_tupK (K := K) (n := 2) rfl (pgs_cons (pg_name (i := 1) sc_greatest_power.nd rfl (Or.inl rfl)) (pgs_cons (pg_name (i := 2) sc_greatest_power.nd rfl (Or.inl rfl)) pgs_nil)))) (fun _ _ _ _ _ => pts_nil) (fun _ _ _ _ _ => (pv 2))) pa_nil)))), ?_⟩
  have F0 := Fr.start e
  refine st_ret F0 (ev_maxL (ns := ks b) (EvL.ev (el_lc (xs := b) (ev_var rfl hb) (by simp [ks]) (by omega) fun i x y v G' e' hx hy d => tn_pair d (fun _ _ => rfl) fun v w dv dw => ?_)) (by simp [ks]; omega)) fun v G3 H3 s3 d3 => q v G3 H3 s3 d3
  have := map_at hx hy
  subst this
  exact ev_var rfl dw
/-! ### cleared -/
abbrev s_cleared : Stmt := top 39
theorem sc_cleared : FnScope ["rows", "row", "d", "a", "p", "big", "found", "other", "often", "left", "k"] ["rows", "row", "d", "a", "p", "big"] (defScope s_cleared) := ⟨rfl, rfl, rfl, by decide +kernel, rfl, by decide +kernel, by decide +kernel⟩
  -- slots 0:rows 1:row 2:d 3:a 4:p 5:big 6:found 7:other 8:often 9:left 10:k
structure ClPre (x : LL × L × Int × Int × Int × Int × Unit) : Prop where
  m : x.1.length ≤ 1000
  n : x.2.1.length ≤ 100
  d0 : 0 ≤ x.2.2.1
  dn : x.2.2.1 < x.2.1.length
  a0 : 0 ≤ x.2.2.2.1
  a1 : x.2.2.2.1 ≤ 500
  p0 : 0 < x.2.2.2.2.1
  p1 : x.2.2.2.2.1 ≤ 47
  b0 : 0 < x.2.2.2.2.2.1
  rw : Bn 9000 x.2.1
  rs : ∀ r ∈ x.1, r.length = x.2.1.length ∧ Bn 9000 r
abbrev sp_cleared : Sp := SpF ClPre fun x : LL × L × Int × Int × Int × Int × Unit => cleared x.1 x.2.1 x.2.2.1.toNat x.2.2.2.1 x.2.2.2.2.1 x.2.2.2.2.2.1
theorem cleared_snoc {rows : LL} {row other : L} {d : Nat} {a p big : Int} {i : Nat} (h : rows[i]? = some other) : cleared (rows.take (i + 1)) row d a p big =
    cleared (rows.take i) row d a p big ++ (if (clrRow row d a p big other).any (· ≠ 0) = true then [clrRow row d a p big other ++ zeros (row.length - d)] else []) := by
  rw [List.take_add_one, h]
  unfold cleared
  rw [List.filter_append, List.map_append]
  congr 1
  simp only [Option.toList_some, List.filter_cons, List.filter_nil]
  split <;> simp
theorem ok_cleared (T : Tx mg) (D_power_of : Df P w K mg base "power_of" 1 ["number", "many"] sp_power_of) {f : Addr} {fd : FuncData} (F : Fun K "cleared" "cleared" s_cleared f fd) : FnOk P w K mg base CX0 2 f fd ["rows", "row", "d", "a", "p", "big"] sp_cleared := by
  refine F.ok sc_cleared (fun vs H Q E h => SpF.len h) (fun cdv A outer s H vs Q E hr h => ?_)
  obtain ⟨G, ⟨rows, row, d, a, p, big, _⟩, e, ⟨u1, _, rfl, hrs, u2, _, rfl, hrow, _, _, rfl, hd, _, _, rfl, ha, _, _, rfl, hp, _, _, rfl, hb, rfl⟩, ⟨m, n, d0, dn, a0, a1, p0, p1, b0, bw, bs⟩, q⟩ := h
  obtain rfl : _ = V.int d := hd
  obtain rfl : _ = V.int a := ha
  obtain rfl : _ = V.int p := hp
  obtain rfl : _ = V.int big := hb
  dsimp only at hrs hrow q m n d0 dn a0 a1 p0 p1 b0 bw bs
  obtain ⟨f_power_of, fd_power_of, g_power_of, m_power_of, k_power_of, b_power_of⟩ := D_power_of
  have hr_power_of : Room 1 _ := hr.mono (by decide)
  refine ⟨_, (pss_cons (ps_set (i := 6) sc_cleared.nd rfl (Or.inl rfl) (pe_lst pa_nil))
      (pss_cons (ps_for PassesOwn.never rfl (pi_listK (K := K) (pv 0)) (pg_name (i := 7) sc_cleared.nd rfl (Or.inr rfl)) (pss_cons (ps_set (i := 8) sc_cleared.nd rfl (Or.inr rfl) (pe_op op_fdivZ (pe_ix (ixL (K := K)) (pv 7) (pv 2) (fun _ _ => rfl)) (pe_call g_power_of hr_power_of rfl m_power_of k_power_of b_power_of .nil pass0 (pa_cons (pv 4) (pa_cons (pv 3) pa_nil)))))
      (pss_cons (ps_setLc (i := 9) (own := [("k", 10)]) (tt := tYes) rfl sc_cleared.nd rfl rfl (sw_true rfl rfl rfl (by decide +kernel)) (pi_range1 rfl T.b_range (pa_cons (pv 2) pa_nil)) (blkOk_by (N := ["rows", "row", "d", "a", "p", "big", "found", "other", "often", "left", "k"]) (sc := defScope s_cleared) (by decide +kernel)) (fun _ _ _ _ _ => (pg_name (i := 10) sc_cleared.nd rfl (Or.inl rfl))) (fun _ _ _ _ _ => pts_nil) (fun _ _ _ _ _ => (pe_op op_mod (pe_op op_sub (pe_ix (ixL (K := K)) (pv 7) (pv 10) (fun _ _ => rfl)) (pe_op op_mulW (pv 8) (pe_ix (ixL (K := K)) (pv 1) (pv 10) (fun _ _ => rfl)))) (pv 5))))
      (pss_one (ps_if (pt_val (pe_callB (cr_anyI rfl) (by rfl) T.b_any (by decide +kernel) (pa_cons (pv 9) pa_nil))) (pss_one (ps_expr (pe_bm PySem.F.plainAttrs_list PySem.F.slot_list_append PySem.F.type_list_append mt_append (pv 6) (pa_cons (pe_op op_cat (pv 9) (pe_op op_rep (pe_lst (pa_cons pe_int pa_nil)) (pe_op op_sub (pe_callB (lenK (K := K)) (by rfl) T.b_len PySem.boot_len (pa_cons (pv 1) pa_nil)) (pv 2)))) pa_nil)))) pss_nil)))))
      (pss_one (ps_ret (pv 6))))), ?_⟩
  have F0 := Fr.start e
  have hpp := pw_sz (p := p) (k := a) (by omega) a1
  have hp0 := pw_pos p0 a
  refine st_setL F0 (el_nil (α := L)) fun l vs0 G1 H1 F1 e1 dd0 => ?_
  cases dd0
  refine st_forX F1 (ev_var rfl (Den.mono e1 hrs)) (fun Gs i G' σ H' => Same Gs G' ∧ ∃ vs o f k j, Fr G H G' ((l, vs) :: []) H' ∧ Paired (Den.D G') vs (cleared (rows.take i) row d.toNat a p big) ∧ σ = [some u1, some u2, some (.int d), some (.int a), some (.int p), some (.int big), some (.ref l), o, f, k, j])
    (fun Gs i G' σ H' ⟨s1, vs, o, f, k, j, F', _⟩ => ⟨s1, F'.o.i⟩) (fun G2 H2 F2 e2 => ⟨Same.refl _, [], none, none, none, none, F2, .nil, rfl⟩) ?_ ?_
  · rintro Gs i other v G' σ H' eG hi dv ⟨s1, vs, o, f, k, j, F', hvs, rfl⟩
    have hmem : other ∈ rows := List.mem_iff_getElem?.mpr ⟨i, hi⟩
    obtain ⟨ol, ob⟩ := bs _ hmem
    have dv' := Den.mono s1 dv
    have hrow' := Den.mono F'.s.g hrow
    have dvd : pw p a ≠ 0 := by omega
    refine st_setI F' (ev_I (ev_ixI (k := d.toNat) (ev_var rfl dv') (ev_var rfl rfl) (by omega) (by omega)) (ev_call (Pre := PwPre) (F := fun x : Int × Int × Unit => pw x.1 x.2.1) (x := (p, a, ())) (ea_cons (ev_var rfl rfl) (ea_cons (ev_var rfl rfl) ea_nil)) ⟨by dsimp only; omega, a0, a1⟩) (cdiv (a := 3000) dvd hpp (by decide))) fun G2 H2 F2 e2 => ?_
    dsimp only
    rw [fdivE (by omega)]
    have hof : (at_ other d.toNat / pw p a).natAbs ≤ 2 ^ 9000 := by
      have h1 := ob d.toNat
      have h2 := Int.natAbs_ediv_le_natAbs (at_ other d.toNat) (pw p a)
      exact Nat.le_trans h2 h1
    have dv2 := Den.mono e2 dv'
    have hrow2 := Den.mono e2 hrow'
    refine st_set F2 (EvL.ev (el_lcR (n := d) (ys := clrRow row d.toNat a p big other) (ea_cons (ev_var rfl rfl) ea_nil) (by unfold clrRow; rw [len_tab]) (by omega) (by omega) (fun _ => rfl) fun j y' G'' e'' hy' => ?_)) fun vl G3 H3 F3 e3 d3 => ?_
    · obtain ⟨hj, rfl⟩ := range_at hy'
      exact ev_I (ev_I0 (ev_ixI (k := j) (ev_var rfl (Den.mono e'' dv2)) (ev_var rfl rfl) rfl (by omega)) (ev_I (ev_var (x := at_ other d.toNat / pw p a) rfl rfl) (ev_ixI (k := j) (ev_var rfl (Den.mono e'' hrow2)) (ev_var rfl rfl) rfl (by omega)) (cmul hof (bw j) (by decide)))) (ev_var (x := big) rfl rfl) (by show 0 < big; exact b0)
    refine st_if F3 (et_test (ev_anyI (ev_var rfl d3))) (fun hb G4 H4 F4 e4 => ?_) (fun hb G4 H4 F4 e4 => ?_)
    · refine st_app F4 rfl (x := clrRow row d.toNat a p big other ++ zeros (row.length - d.toNat)) ((EvL.ev (el_cat (ev_var rfl (Den.mono e4 d3)) (EvL.ev (el_rep (el_one (ev_int (i := 0))) (ev_I0 (ev_len (ev_var rfl (Den.mono (e3.trans e4) hrow2))) (ev_var (x := d) rfl rfl)) (by omega) (by omega))) ?_)).cast ?_) ?_ fun v5 G5 H5 F5 e5 d5 => ?_
      · rw [List.length_replicate]; unfold clrRow; rw [len_tab]; omega
      · rw [zeros_eq]; congr 2; omega
      · rw [Paired.len hvs]
        have h8 := List.length_filter_le (fun other => (clrRow row d.toNat a p big other).any (· ≠ 0)) (rows.take i)
        have h9 : (rows.take i).length ≤ rows.length := by rw [List.length_take]; omega
        unfold cleared
        rw [List.length_map]
        omega
      · refine ⟨G5, ((((s1.trans e2).trans e3).trans e4).trans e5), vs ++ [v5], _, _, _, _, F5, ?_, rfl⟩
        rw [cleared_snoc hi, if_pos hb]
        exact Paired.app (Paired.imp (fun _ _ z => Den.mono (((e2.trans e3).trans e4).trans e5) z) hvs) (.cons d5 .nil)
    · refine nxt ⟨G4, (((s1.trans e2).trans e3).trans e4), vs, _, _, _, _, F4, ?_, rfl⟩
      rw [cleared_snoc hi, if_neg (by rw [hb]; exact Bool.false_ne_true), List.append_nil]
      exact Paired.imp (fun _ _ z => Den.mono ((e2.trans e3).trans e4) z) hvs
  · rintro Gs G' σ H' eG ⟨s1, vs, o, f, k, j, F', hvs, rfl⟩
    refine st_reto F' rfl (xs := cleared rows row d.toNat a p big) ?_ fun v G6 H6 s6 d6 => q v G6 H6 s6 d6
    rwa [List.take_of_length_le (Nat.le_refl _)] at hvs
end
end Bw
set_option Elab.async false
set_option linter.all false
set_option maxRecDepth 100000
set_option maxHeartbeats 4000000
namespace Bw
open PySem L2 Bd
section
variable {P : Program} {w : World} {K : PySem.W.Frag} {mg : Str → Option Value} {base : Heap}
/-! ### triangular -/
abbrev s_triangular : Stmt := top 40
theorem sc_triangular : FnScope ["rows", "n", "p", "most", "big", "found", "row", "rest", "d", "best", "plain", "a", "part", "number", "k"] ["rows", "n", "p", "most"] (defScope s_triangular) := ⟨rfl, rfl, rfl, by decide +kernel, rfl, by decide +kernel, by decide +kernel⟩
  -- slots 0:rows 1:n 2:p 3:most 4:big 5:found 6:row 7:rest 8:d 9:best 10:plain 11:a 12:part 13:number 14:k
structure TrPre (x : LL × Int × Int × Int × Unit) : Prop where
  m : x.1.length ≤ 1000
  n0 : 0 ≤ x.2.1
  n1 : x.2.1 ≤ 100
  p0 : 2 ≤ x.2.2.1
  p1 : x.2.2.1 ≤ 47
  k0 : 0 ≤ x.2.2.2.1
  k1 : x.2.2.2.1 ≤ 500
  rs : ∀ r ∈ x.1, r.length = x.2.1.toNat
abbrev sp_triangular : Sp := SpF TrPre fun x : LL × Int × Int × Int × Unit => tri x.1 x.2.1.toNat x.2.2.1 x.2.2.2.1
theorem mod_sz {x big : Int} {a : Nat} (h0 : 0 < big) (h : big.natAbs ≤ 2 ^ a) : (x % big).natAbs ≤ 2 ^ a := by
  have h1 := Int.emod_nonneg x (show big ≠ 0 by omega)
  have h2 := Int.emod_lt_of_pos x h0
  have : (x % big).natAbs ≤ big.natAbs := by omega
  exact Nat.le_trans this h
theorem szF_nonneg : ∀ (n : Nat) (x p : Int), 0 ≤ szF n x p
  | 0, _, _ => by simp [szF]
  | n + 1, x, p => by
    unfold szF
    split
    · have := szF_nonneg n (x / p) p; omega
    · omega
theorem sizeAt_rng {row : L} {d : Nat} {p most : Int} (h : 0 ≤ most) : 0 ≤ sizeAt row d p most ∧ sizeAt row d p most ≤ most := by
  unfold sizeAt
  have := szF_nonneg (at_ row d).natAbs (at_ row d) p
  unfold sz
  split <;> omega
theorem lifted_bn {row : L} {d : Nat} {a p big : Int} {N : Nat} (h0 : 0 < big) (h : big.natAbs ≤ 2 ^ N) : Bn N (lifted row d a p big) := fun k => by
  unfold lifted
  rw [at_map _ _ (by simp)]
  exact mod_sz h0 h
theorem clr_row_ok {row other : L} {d n : Nat} {a p big : Int} {N : Nat} (h0 : 0 < big) (h : big.natAbs ≤ 2 ^ N) (hl : row.length = n) (hd : d < n) : (clrRow row d a p big other ++ zeros (row.length - d)).length = n ∧ Bn N (clrRow row d a p big other ++ zeros (row.length - d)) := by
  constructor
  · rw [List.length_append, len_zeros]; unfold clrRow; rw [len_tab]; omega
  · intro k
    rw [at_append, at_zeros]
    split
    · unfold clrRow; rw [at_tab]
      split
      · exact mod_sz h0 h
      · exact Nat.zero_le _
    · exact Nat.zero_le _
theorem best_snoc {rows : LL} {d : Nat} {p most : Int} {i : Nat} {row : L} (h : rows[i]? = some row) : best (rows.take (i + 1)) d p most = if at_ row d ≠ 0 ∧ lessAt row d p most (best (rows.take i) d p most) = true then some row else best (rows.take i) d p most := by
  rw [List.take_add_one, h]
  unfold best
  rw [List.foldl_append]; rfl
theorem best_mem {rows : LL} {d : Nat} {p most : Int} : ∀ c, best rows d p most = some c → c ∈ rows := by
  have key : ∀ (rows : LL) (b : Option L) c, rows.foldl (fun b row => if at_ row d ≠ 0 ∧ lessAt row d p most b = true then some row else b) b = some c → c ∈ rows ∨ b = some c := by
    intro rows
    induction rows with
    | nil => intro b c h; exact .inr h
    | cons r rows ih =>
      intro b c h
      rw [List.foldl_cons] at h
      rcases ih _ _ h with h | h
      · exact .inl (List.mem_cons_of_mem _ h)
      · split at h
        · cases h; exact .inl List.mem_cons_self
        · exact .inr h
  intro c h
  rcases key rows none c h with h | h
  · exact h
  · cases h
theorem noL {α : Type} [Den α] (H : Hp) (y : List α) : ¬ Den.D H V.non y := fun ⟨_, _, h, _⟩ => by cases h
set_option exponentiation.threshold 20000 in
theorem pow3000 : (2 : Int) ^ 3000 ≤ 2 ^ 8000 := by decide +kernel
theorem int3000 {m : Int} (h : m.natAbs ≤ 2 ^ 3000) : m ≤ 2 ^ 8000 := by
  have e8 : ((2 ^ 3000 : Nat) : Int) = (2 : Int) ^ 3000 := Int.natCast_pow 2 3000
  have := pow3000
  generalize (2 : Int) ^ 8000 = z at *
  generalize (2 : Int) ^ 3000 = y at *
  generalize (2 : Nat) ^ 3000 = u at *
  omega
theorem le9000 {x : Nat} (h : x ≤ 2 ^ 3000) : x ≤ 2 ^ 9000 := Nat.le_trans h (Nat.pow_le_pow_right (by decide) (by decide))
theorem bn9 {f : L} (h : Bn 3000 f) : Bn 9000 f := fun k => le9000 (h k)
theorem ok_triangular (T : Tx mg) (D_cleared : Df P w K mg base "cleared" 2 ["rows", "row", "d", "a", "p", "big"] sp_cleared) (D_power_of : Df P w K mg base "power_of" 1 ["number", "many"] sp_power_of) (D_lifted : Df P w K mg base "lifted" 2 ["row", "d", "a", "p", "big"] sp_lifted) (D_size_at : Df P w K mg base "size_at" 2 ["row", "d", "p", "most"] sp_size_at) {f : Addr} {fd : FuncData} (F : Fun K "triangular" "triangular" s_triangular f fd) : FnOk P w K mg base CX0 3 f fd ["rows", "n", "p", "most"] sp_triangular := by
  refine F.ok sc_triangular (fun vs H Q E h => SpF.len h) (fun cdv A outer s H vs Q E hr h => ?_)
  obtain ⟨G, ⟨rows, n, p, most, _⟩, e, ⟨u, _, rfl, hrs, _, _, rfl, hn, _, _, rfl, hp, _, _, rfl, hm, rfl⟩, ⟨m, n0, n1, p0, p1, k0, k1, rs⟩, q⟩ := h
  obtain rfl : _ = V.int n := hn
  obtain rfl : _ = V.int p := hp
  obtain rfl : _ = V.int most := hm
  dsimp only at hrs q m n0 n1 p0 p1 k0 k1 rs
  obtain ⟨f_cleared, fd_cleared, g_cleared, m_cleared, k_cleared, b_cleared⟩ := D_cleared
  have hr_cleared : Room 2 _ := hr.mono (by decide)
  obtain ⟨f_power_of, fd_power_of, g_power_of, m_power_of, k_power_of, b_power_of⟩ := D_power_of
  have hr_power_of : Room 1 _ := hr.mono (by decide)
  obtain ⟨f_lifted, fd_lifted, g_lifted, m_lifted, k_lifted, b_lifted⟩ := D_lifted
  have hr_lifted : Room 2 _ := hr.mono (by decide)
  obtain ⟨f_size_at, fd_size_at, g_size_at, m_size_at, k_size_at, b_size_at⟩ := D_size_at
  have hr_size_at : Room 2 _ := hr.mono (by decide)
  refine ⟨_, (pss_cons (ps_set (i := 4) sc_triangular.nd rfl (Or.inr rfl) (pe_call g_power_of hr_power_of rfl m_power_of k_power_of b_power_of .nil pass0 (pa_cons (pv 2) (pa_cons (pv 3) pa_nil))))
      (pss_cons (ps_set (i := 5) sc_triangular.nd rfl (Or.inl rfl) (pe_lst pa_nil))
      (pss_cons (ps_setLc (i := 7) (own := [("row", 6)]) (tt := tYes) rfl sc_triangular.nd rfl rfl (sw_true rfl rfl rfl (by decide +kernel)) (pi_listK (K := K) (pv 0)) (blkOk_by (N := ["rows", "n", "p", "most", "big", "found", "row", "rest", "d", "best", "plain", "a", "part", "number", "k"]) (sc := defScope s_triangular) (by decide +kernel)) (fun _ _ _ _ _ => (pg_name (i := 6) sc_triangular.nd rfl (Or.inl rfl))) (fun _ _ _ _ _ => pts_nil) (fun _ _ _ _ _ => (pe_lc (own := [("number", 13)]) (tt := tYes) rfl sc_triangular.nd (pi_listK (K := K) (pv 6)) (blkOk_by (by rfl)) (fun _ _ _ _ _ => (pg_name (i := 13) sc_triangular.nd rfl (Or.inl rfl))) (fun _ _ _ _ _ => pts_nil) (fun _ _ _ _ _ => (pe_op op_mod (pv 13) (pv 4))))))
      (pss_cons (ps_for PassesOwn.never rfl (pi_range3 rfl T.b_range (pa_cons (pe_op op_sub (pv 1) pe_int) (pa_cons (pe_un un_neg pe_int) (pa_cons (pe_un un_neg pe_int) pa_nil)))) (pg_name (i := 8) sc_triangular.nd rfl (Or.inl rfl)) (pss_cons (ps_set (i := 9) sc_triangular.nd rfl (Or.inl rfl) pe_non)
      (pss_cons (ps_for PassesOwn.never rfl (pi_listK (K := K) (pv 7)) (pg_name (i := 6) sc_triangular.nd rfl (Or.inr rfl)) (pss_one (ps_if (PW.pt (pw_and (pt_cmpR op_ne (pe_ix (ixL (K := K)) (pv 6) (pv 8) (fun _ _ => rfl)) pe_int (nomark _)) (pw_and1 (PW.pt (pw_or (pt_cmpR op_isN (pv 9) pe_non (nomark _)) (pw_or1 (pt_cmpR op_lt (pe_call g_size_at hr_size_at rfl m_size_at k_size_at b_size_at .nil pass0 (pa_cons (pv 6) (pa_cons (pv 8) (pa_cons (pv 2) (pa_cons (pv 3) pa_nil))))) (pe_call g_size_at hr_size_at rfl m_size_at k_size_at b_size_at .nil pass0 (pa_cons (pv 9) (pa_cons (pv 8) (pa_cons (pv 2) (pa_cons (pv 3) pa_nil))))) (nomark _)))))))) (pss_one (ps_set (i := 9) sc_triangular.nd rfl (Or.inl rfl) (pv 6))) pss_nil)))
      (pss_cons (ps_set (i := 10) sc_triangular.nd rfl (Or.inl rfl) (pe_op op_cat (pe_op op_rep (pe_lst (pa_cons pe_int pa_nil)) (pv 8)) (pe_lst (pa_cons pe_int pa_nil))))
      (pss_one (ps_if (pt_cmpR op_isN (pv 9) pe_non (nomark _)) (pss_one (ps_expr (pe_bm PySem.F.plainAttrs_list PySem.F.slot_list_append PySem.F.type_list_append mt_append (pv 5) (pa_cons (pe_tup (pa_cons (pv 10) (pa_cons pe_int pa_nil))) pa_nil)))) (pss_cons (ps_set (i := 11) sc_triangular.nd rfl (Or.inl rfl) (pe_call g_size_at hr_size_at rfl m_size_at k_size_at b_size_at .nil pass0 (pa_cons (pv 9) (pa_cons (pv 8) (pa_cons (pv 2) (pa_cons (pv 3) pa_nil))))))
      (pss_cons (ps_set (i := 6) sc_triangular.nd rfl (Or.inr rfl) (pe_call g_lifted hr_lifted rfl m_lifted k_lifted b_lifted .nil pass0 (pa_cons (pv 9) (pa_cons (pv 8) (pa_cons (pv 11) (pa_cons (pv 2) (pa_cons (pv 4) pa_nil)))))))
      (pss_cons (ps_set (i := 12) sc_triangular.nd rfl (Or.inr rfl) (pe_call g_power_of hr_power_of rfl m_power_of k_power_of b_power_of .nil pass0 (pa_cons (pv 2) (pa_cons (pv 11) pa_nil))))
      (pss_cons (ps_expr (pe_bm PySem.F.plainAttrs_list PySem.F.slot_list_append PySem.F.type_list_append mt_append (pv 5) (pa_cons (pe_tup (pa_cons (pe_op op_cat (pe_lc (own := [("k", 14)]) (tt := tYes) rfl sc_triangular.nd (pi_range1 rfl T.b_range (pa_cons (pv 8) pa_nil)) (blkOk_by (N := ["rows", "n", "p", "most", "big", "found", "row", "rest", "d", "best", "plain", "a", "part", "number", "k"]) (sc := defScope s_triangular) (by decide +kernel)) (fun _ _ _ _ _ => (pg_name (i := 14) sc_triangular.nd rfl (Or.inl rfl))) (fun _ _ _ _ _ => pts_nil) (fun _ _ _ _ _ => (pe_op op_fdivZ (pe_ix (ixL (K := K)) (pv 6) (pv 14) (fun _ _ => rfl)) (pv 12)))) (pe_lst (pa_cons pe_int pa_nil))) (pa_cons (pe_op op_sub (pv 3) (pv 11)) pa_nil))) pa_nil)))
      (pss_one (ps_set (i := 7) sc_triangular.nd rfl (Or.inl rfl) (pe_call g_cleared hr_cleared rfl m_cleared k_cleared b_cleared .nil pass0 (pa_cons (pv 7) (pa_cons (pv 6) (pa_cons (pv 8) (pa_cons (pv 11) (pa_cons (pv 2) (pa_cons (pv 4) pa_nil)))))))))))))))))))
      (pss_one (ps_ret (pe_listRev rfl (by rfl) T.b_list (by rfl) T.b_reversed (pv 5)))))))), ?_⟩
  have F0 := Fr.start e
  obtain ⟨N, rfl⟩ : ∃ N : Nat, n = (N : Int) := ⟨n.toNat, by omega⟩
  have eN : ((N : Int)).toNat = N := by simp
  rw [eN] at rs q
  have bp := pw_sz (p := p) (k := most) (by omega) k1
  have b0 := pw_pos (show 0 < p by omega) most
  refine st_setI F0 (ev_call (Pre := PwPre) (F := fun x : Int × Int × Unit => pw x.1 x.2.1) (x := (p, most, ())) (ea_cons (ev_var rfl rfl) (ea_cons (ev_var rfl rfl) ea_nil)) ⟨by dsimp only; omega, k0, k1⟩) fun G1 H1 F1 e1 => ?_
  dsimp only
  refine st_setL F1 (el_nil (α := L × Int)) fun l vs0 G2 H2 F2 e2 d0 => ?_
  cases d0
  refine st_set F2 (EvL.ev (el_lc (xs := rows) (ys := rows.map fun row => row.map (· % pw p most)) (ev_var rfl (Den.mono (e1.trans e2) hrs)) (by simp) (by omega) fun i x y v G' e' hx hy d => tn_name rfl (EvL.ev (el_lc (xs := x) (ys := y) (ev_var rfl d) ?_ ?_ fun j z y' v' G'' e'' hz hy' dz => tn_name rfl ?_)))) fun vr G3 H3 F3 e3 d3 => ?_
  · rw [map_at hx hy, List.length_map]
  · rw [rs x (List.mem_iff_getElem?.mpr ⟨i, hx⟩)]; omega
  · obtain rfl : v' = V.int z := dz
    rw [map_at hx hy] at hy'
    rw [map_at hz hy']
    exact ev_I (ev_var (x := z) rfl rfl) (ev_var (x := pw p most) rfl rfl) (by show 0 < pw p most; exact b0)
  have h0 : ∀ r ∈ rows.map (fun row => row.map (· % pw p most)), r.length = N ∧ Bn 3000 r := by
    intro r hr
    obtain ⟨row, hrow, rfl⟩ := List.mem_map.mp hr
    refine ⟨by rw [List.length_map]; exact rs _ hrow, fun k => ?_⟩
    rw [at_map _ _ (by simp)]
    exact mod_sz b0 bp
  refine st_for3 (m := N) F3 (ea_cons (ev_I0 (ev_var (x := (N : Int)) rfl rfl) ev_int) (ea_cons (ev_neg ev_int) (ea_cons (ev_neg ev_int) ea_nil))) (by omega)
    (fun t σ H' => ∃ G' vs vr row d bs pl a part nu k, Fr G H G' ((l, vs) :: []) H' ∧ Paired (Den.D G') vs (triN rows N p most t).1 ∧ (triN rows N p most t).1.length = t ∧ Den.D G' vr (triN rows N p most t).2 ∧ (triN rows N p most t).2.length ≤ 1000 ∧ (∀ r ∈ (triN rows N p most t).2, r.length = N ∧ Bn 3000 r) ∧
      σ = [some u, some (.int N), some (.int p), some (.int most), some (.int (pw p most)), some (.ref l), row, some vr, d, bs, pl, a, part, nu, k])
    (fun G4 H4 F4 e4 => ⟨G4, [], vr, none, none, none, none, none, none, none, none, F4, .nil, rfl, Den.mono e4 d3, by show (rows.map _).length ≤ _; rw [List.length_map]; exact m, h0, rfl⟩) ?_ ?_
  · rintro t σ H4 ht ⟨G4, vs, vr, row, d, bs, pl, a, part, nu, k, F4, hvs, hlt, dvr, hlen, hr2, rfl⟩
    have e : triN rows N p most (t + 1) = triSt p most (N - 1 - t) (triN rows N p most t) := rfl
    rw [e]
    generalize triN rows N p most t = st at *
    obtain ⟨fo, rest⟩ := st
    dsimp only at hvs hlt dvr hlen hr2
    have hdn : N - 1 - t < N := by omega
    refine st_set F4 (x := (none : Option L)) ev_non fun vb G5 H5 F5 e5 d5 => ?_
    obtain rfl : vb = V.non := d5
    refine st_forX F5 (ev_var rfl (Den.mono e5 dvr)) (fun Gs i G' σ H' => Same Gs G' ∧ ∃ vb row, Fr G H G' ((l, vs) :: []) H' ∧ Den.D G' vb (best (rest.take i) (N - 1 - t) p most) ∧ σ = [some u, some (.int N), some (.int p), some (.int most), some (.int (pw p most)), some (.ref l), row, some vr, some (.int ((N - 1 - t : Nat) : Int)), some vb, pl, a, part, nu, k])
      (fun Gs i G' σ H' ⟨s1, vb, row, F', _⟩ => ⟨s1, F'.o.i⟩) (fun G6 H6 F6 e6 => ⟨Same.refl _, .non, row, F6, rfl, rfl⟩) ?_ ?_
    · rintro Gs i r v G' σ H' eG hi dv ⟨s1, vb, row', F', dvb, rfl⟩
      have hmem : r ∈ rest := List.mem_iff_getElem?.mpr ⟨i, hi⟩
      obtain ⟨rl, rb⟩ := hr2 _ hmem
      have dv' := Den.mono s1 dv
      have hbm : ∀ c, best (rest.take i) (N - 1 - t) p most = some c → c.length = N := fun c hc => (hr2 c (List.mem_of_mem_take (best_mem c hc))).1
      refine st_if F' (b := decide (at_ r (N - 1 - t) ≠ 0 ∧ lessAt r (N - 1 - t) p most (best (rest.take i) (N - 1 - t) p most) = true)) (EvT.cast (et_and (et_test (ev_neI (ev_ixI (k := N - 1 - t) (ev_var rfl dv') (ev_var (x := ((N - 1 - t : Nat) : Int)) rfl rfl) rfl (by omega)) ev_int)) fun hb => et_or (et_test (ev_isN (ev_var rfl dvb) noL)) (b := lessAt r (N - 1 - t) p most (best (rest.take i) (N - 1 - t) p most)) fun hb2 => ?_) ?_) (fun hb G7 H7 F7 e7 => ?_) (fun hb G7 H7 F7 e7 => ?_)
      · cases hc : best (rest.take i) (N - 1 - t) p most with
        | none => rw [hc] at hb2; cases hb2
        | some c =>
          have hcl := hbm c hc
          rw [hc] at dvb
          exact et_test (ev_B0 (ev_call (Pre := SaPre) (F := fun x : L × Int × Int × Int × Unit => sizeAt x.1 x.2.1.toNat x.2.2.1 x.2.2.2.1) (x := (r, ((N - 1 - t : Nat) : Int), p, most, ())) (ea_cons (ev_var rfl dv') (ea_cons (ev_var rfl rfl) (ea_cons (ev_var rfl rfl) (ea_cons (ev_var rfl rfl) ea_nil)))) ⟨by dsimp only; omega, by dsimp only; omega, p0, by dsimp only; omega⟩)
            (ev_call (Pre := SaPre) (F := fun x : L × Int × Int × Int × Unit => sizeAt x.1 x.2.1.toNat x.2.2.1 x.2.2.2.1) (x := (c, ((N - 1 - t : Nat) : Int), p, most, ())) (ea_cons (ev_var rfl dvb) (ea_cons (ev_var rfl rfl) (ea_cons (ev_var rfl rfl) (ea_cons (ev_var rfl rfl) ea_nil)))) ⟨by dsimp only; omega, by dsimp only; omega, p0, by dsimp only; omega⟩))
      · cases hc : best (rest.take i) (N - 1 - t) p most with
        | none => simp [lessAt]; rfl
        | some c => simp [lessAt]; rfl
      · have hb := of_decide_eq_true hb
        refine st_set F7 (x := some r) (ev_some (ev_var rfl (Den.mono e7 dv'))) fun v8 G8 H8 F8 e8 d8 => ⟨G8, (s1.trans e7).trans e8, v8, some v, F8, ?_, rfl⟩
        rw [best_snoc hi, if_pos hb]; exact d8
      · have hb := of_decide_eq_false hb
        refine nxt ⟨G7, s1.trans e7, vb, some v, F7, ?_, rfl⟩
        rw [best_snoc hi, if_neg hb]; exact Den.mono e7 dvb
    · rintro Gs G6 σ H6 eG ⟨s1, vb, row', F6, dvb, rfl⟩
      rw [List.take_of_length_le (Nat.le_refl _)] at dvb
      have e46 := eG.trans s1
      have e46 := e5.trans e46
      have hvs6 : Paired (Den.D G6) vs fo := Paired.imp (fun _ _ z => Den.mono e46 z) hvs
      have dvr6 := Den.mono e46 dvr
      refine st_set F6 (x := zeros (N - 1 - t) ++ [1]) ((EvL.ev (el_cat (EvL.ev (el_rep (el_one (ev_int (i := 0))) (ev_var (x := ((N - 1 - t : Nat) : Int)) rfl rfl) (by omega) (by omega))) (EvL.ev (el_one (ev_int (i := 1)))) (by rw [List.length_replicate]; show _ + 1 ≤ _; omega))).cast (by rw [zeros_eq]; congr 2)) fun vp G7 H7 F7 e7 d7 => ?_
      have dvb7 := Den.mono e7 dvb
      have dvr7 := Den.mono e7 dvr6
      refine st_if F7 (et_test (ev_isN (ev_var rfl dvb7) noL)) (fun hb G8 H8 F8 e8 => ?_) (fun hb G8 H8 F8 e8 => ?_)
      · have hb : best rest (N - 1 - t) p most = none := by simpa using hb
        refine st_app F8 rfl (x := (zeros (N - 1 - t) ++ [1], (0 : Int))) (ev_tup (ev_var rfl (Den.mono e8 d7)) ev_int) (by rw [Paired.len hvs6]; omega) fun v9 G9 H9 F9 e9 d9 => ?_
        refine ⟨G9, vs ++ [v9], vr, _, _, _, _, _, _, _, _, F9, ?_, ?_, ?_, ?_, ?_, rfl⟩
        · unfold triSt; dsimp only; rw [hb]
          exact Paired.app (Paired.imp (fun _ _ z => Den.mono ((e7.trans e8).trans e9) z) hvs6) (.cons d9 .nil)
        · unfold triSt; dsimp only; rw [hb]; simp [hlt]
        · unfold triSt; dsimp only; rw [hb]; exact Den.mono (e8.trans e9) dvr7
        · unfold triSt; dsimp only; rw [hb]; exact hlen
        · unfold triSt; dsimp only; rw [hb]; exact hr2
      · cases hc : best rest (N - 1 - t) p most with
        | none => rw [hc] at hb; cases hb
        | some c =>
          obtain ⟨cl, cb⟩ := hr2 c (best_mem c hc)
          rw [hc] at dvb7
          have dc : Den.D G8 vb c := Den.mono e8 dvb7
          have sr := sizeAt_rng (row := c) (d := N - 1 - t) (p := p) k0
          generalize hA : sizeAt c (N - 1 - t) p most = A at *
          have ap := pw_sz (p := p) (k := A) (by omega) (by omega)
          have a0 := pw_pos (show 0 < p by omega) A
          refine st_setI F8 ((ev_call (Pre := SaPre) (F := fun x : L × Int × Int × Int × Unit => sizeAt x.1 x.2.1.toNat x.2.2.1 x.2.2.2.1) (x := (c, ((N - 1 - t : Nat) : Int), p, most, ())) (ea_cons (ev_var rfl dc) (ea_cons (ev_var rfl rfl) (ea_cons (ev_var rfl rfl) (ea_cons (ev_var rfl rfl) ea_nil)))) ⟨by dsimp only; omega, by dsimp only; omega, p0, by dsimp only; omega⟩).cast (y := A) hA) fun G9 H9 F9 e9 => ?_
          refine st_set F9 (ev_call (Pre := LiPre) (F := fun x : L × Int × Int × Int × Int × Unit => lifted x.1 x.2.1.toNat x.2.2.1 x.2.2.2.1 x.2.2.2.2.1) (x := (c, ((N - 1 - t : Nat) : Int), A, p, pw p most, ())) (ea_cons (ev_var rfl (Den.mono e9 dc)) (ea_cons (ev_var rfl rfl) (ea_cons (ev_var rfl rfl) (ea_cons (ev_var rfl rfl) (ea_cons (ev_var rfl rfl) ea_nil)))))
            ⟨by dsimp only; omega, by dsimp only; omega, by dsimp only; omega, by dsimp only; omega, by dsimp only; omega, by dsimp only; omega, by dsimp only; omega, b0, int3000 bp, bn9 cb⟩) fun vl G10 H10 F10 e10 d10 => ?_
          have d10 : Den.D G10 vl (lifted c (N - 1 - t) A p (pw p most)) := d10
          have ll : (lifted c (N - 1 - t) A p (pw p most)).length = N := by simp [lifted, cl]
          have lb : Bn 3000 (lifted c (N - 1 - t) A p (pw p most)) := lifted_bn b0 bp
          generalize hL : lifted c (N - 1 - t) A p (pw p most) = R at *
          refine st_setI F10 (ev_call (Pre := PwPre) (F := fun x : Int × Int × Unit => pw x.1 x.2.1) (x := (p, A, ())) (ea_cons (ev_var rfl rfl) (ea_cons (ev_var rfl rfl) ea_nil)) ⟨by dsimp only; omega, by dsimp only; omega, by dsimp only; omega⟩) fun G11 H11 F11 e11 => ?_
          dsimp only
          refine st_app F11 rfl (x := (tab (N - 1 - t) (fun k => at_ R k / pw p A) ++ [1], most - A)) (ev_tup (EvL.ev (el_cat (EvL.ev (el_lcR (n := ((N - 1 - t : Nat) : Int)) (ys := tab (N - 1 - t) (fun k => at_ R k / pw p A)) (ea_cons (ev_var rfl rfl) ea_nil) (by rw [len_tab]; simp) (by omega) (by omega) (fun _ => rfl) fun j y' G'' e'' hy' => ?_)) (EvL.ev (el_one (ev_int (i := 1)))) (by rw [len_tab]; show _ + 1 ≤ _; omega))) (ev_I0 (ev_var (x := most) rfl rfl) (ev_var (x := A) rfl rfl))) (by rw [Paired.len hvs6]; omega) fun v12 G12 H12 F12 e12 d12 => ?_
          · obtain ⟨hj, rfl⟩ := range_at hy'
            rw [← fdivE (show 0 ≤ pw p A by omega)]
            exact ev_I (ev_ixI (k := j) (ev_var rfl (Den.mono (e11.trans e'') d10)) (ev_var rfl rfl) rfl (by omega)) (ev_var (x := pw p A) rfl rfl) (cdiv (a := 3000) (by omega) ap (by decide))
          have d10' := Den.mono (e11.trans e12) d10
          have e812 := ((e9.trans e10).trans e11).trans e12
          have dvr12 := Den.mono (e8.trans e812) dvr7
          refine st_set F12 (ev_call (Pre := ClPre) (F := fun x : LL × L × Int × Int × Int × Int × Unit => cleared x.1 x.2.1 x.2.2.1.toNat x.2.2.2.1 x.2.2.2.2.1 x.2.2.2.2.2.1) (x := (rest, R, ((N - 1 - t : Nat) : Int), A, p, pw p most, ())) (ea_cons (ev_var rfl dvr12) (ea_cons (ev_var rfl d10') (ea_cons (ev_var rfl rfl) (ea_cons (ev_var rfl rfl) (ea_cons (ev_var rfl rfl) (ea_cons (ev_var rfl rfl) ea_nil))))))
            ⟨hlen, by dsimp only; omega, by dsimp only; omega, by dsimp only; omega, by dsimp only; omega, by dsimp only; omega, by dsimp only; omega, by dsimp only; omega, b0, bn9 lb, fun r hr => ⟨by dsimp only; rw [(hr2 r hr).1, ll], bn9 (hr2 r hr).2⟩⟩) fun v13 G13 H13 F13 e13 d13 => ?_
          have d13 : Den.D G13 v13 (cleared rest R (N - 1 - t) A p (pw p most)) := d13
          have est : triSt p most (N - 1 - t) (fo, rest) = (fo ++ [(tab (N - 1 - t) (fun k => at_ R k / pw p A) ++ [1], most - A)], cleared rest R (N - 1 - t) A p (pw p most)) := by
            unfold triSt; dsimp only; rw [hc]; dsimp only; rw [hA, hL]
          rw [est]
          refine ⟨G13, vs ++ [v12], v13, _, _, _, _, _, _, _, _, F13, ?_, ?_, d13, ?_, ?_, rfl⟩
          · exact Paired.app (Paired.imp (fun _ _ z => Den.mono (((e7.trans e8).trans e812).trans e13) z) hvs6) (.cons (Den.mono e13 d12) .nil)
          · simp [hlt]
          · unfold cleared
            rw [List.length_map]
            have := List.length_filter_le (fun other => (clrRow R (N - 1 - t) A p (pw p most) other).any (· ≠ 0)) rest
            omega
          · intro r hr
            unfold cleared at hr
            obtain ⟨o, _, rfl⟩ := List.mem_map.mp hr
            exact clr_row_ok b0 bp ll hdn
  · rintro σ H4 ⟨G4, vs, vr, row, d, bs, pl, a, part, nu, k, F4, hvs, hlt, dvr, hlen, hr2, rfl⟩
    exact st_ret F4 (EvL.ev (el_listRevo rfl List.mem_cons_self hvs)) fun v G5 H5 s5 d5 => q v G5 H5 s5 d5
end
end Bw
set_option Elab.async false
set_option linter.all false
set_option maxRecDepth 100000
set_option maxHeartbeats 4000000
namespace Bw
open PySem L2 Bd
section
variable {P : Program} {w : World} {K : PySem.W.Frag} {mg : Str → Option Value} {base : Heap}
/-! ### coordinates -/
abbrev s_coordinates : Stmt := top 43
theorem sc_coordinates : FnScope ["basis", "row", "p", "most", "rest", "found", "d", "g", "k", "step", "j", "number"] ["basis", "row", "p", "most"] (defScope s_coordinates) := ⟨rfl, rfl, rfl, by decide +kernel, rfl, by decide +kernel, by decide +kernel⟩
  -- slots 0:basis 1:row 2:p 3:most 4:rest 5:found 6:d 7:g 8:k 9:step 10:j 11:number
structure CoPre (x : B × L × Int × Int × Unit) : Prop where
  n : x.1.length ≤ 20
  l : x.2.1.length = x.1.length
  p0 : 0 < x.2.2.1
  p1 : x.2.2.1 ≤ 47
  ks : ∀ gk ∈ x.1, 0 ≤ x.2.2.2.1 - gk.2 ∧ x.2.2.2.1 - gk.2 ≤ 500 ∧ Bn 9000 gk.1
  rb : Bn 400000 x.2.1
abbrev sp_coordinates : Sp := SpF CoPre fun x : B × L × Int × Int × Unit => co x.1 x.2.1 x.2.2.1 x.2.2.2.1
theorem coN_none {b : B} {row : L} {p most : Int} {m : Nat} (h : coN b row p most m = none) : ∀ k, coN b row p most (m + k) = none
  | 0 => h
  | k + 1 => by
    show coSt b p most _ (coN b row p most (m + k)) = none
    rw [coN_none h k]; rfl
theorem co_none {b : B} {row : L} {p most : Int} {m : Nat} (hm : m ≤ b.length) (h : coN b row p most m = none) : co b row p most = none := by
  have := coN_none h (b.length - m)
  have e : m + (b.length - m) = b.length := by omega
  rw [e] at this
  unfold co
  rw [this]; rfl
theorem natAbs_mul_le {x y : Int} {a b : Nat} (h1 : x.natAbs ≤ 2 ^ a) (h2 : y.natAbs ≤ 2 ^ b) : (x * y).natAbs ≤ 2 ^ (a + b) := by
  rw [Int.natAbs_mul, Nat.pow_add]; exact Nat.mul_le_mul h1 h2
theorem natAbs_sub_le {x y : Int} {a : Nat} (h1 : x.natAbs ≤ 2 ^ a) (h2 : y.natAbs ≤ 2 ^ a) : (x - y).natAbs ≤ 2 ^ (a + 1) := by
  rw [Nat.pow_succ]; omega
theorem ok_coordinates (T : Tx mg) (D_number_at : Df P w K mg base "number_at" 1 ["f", "k"] sp_number_at) (D_power_of : Df P w K mg base "power_of" 1 ["number", "many"] sp_power_of) {f : Addr} {fd : FuncData} (F : Fun K "coordinates" "coordinates" s_coordinates f fd) : FnOk P w K mg base CX0 2 f fd ["basis", "row", "p", "most"] sp_coordinates := by
  refine F.ok sc_coordinates (fun vs H Q E h => SpF.len h) (fun cdv A outer s H vs Q E hr h => ?_)
  obtain ⟨G, ⟨b, row, p, most, _⟩, e, ⟨u, _, rfl, hb, u2, _, rfl, hrow, _, _, rfl, hp, _, _, rfl, hm, rfl⟩, ⟨n, l, p0, p1, ks, rb⟩, q⟩ := h
  obtain rfl : _ = V.int p := hp
  obtain rfl : _ = V.int most := hm
  dsimp only at hb hrow q n l p0 p1 ks rb
  obtain ⟨f_number_at, fd_number_at, g_number_at, m_number_at, k_number_at, b_number_at⟩ := D_number_at
  have hr_number_at : Room 1 _ := hr.mono (by decide)
  obtain ⟨f_power_of, fd_power_of, g_power_of, m_power_of, k_power_of, b_power_of⟩ := D_power_of
  have hr_power_of : Room 1 _ := hr.mono (by decide)
  refine ⟨_, (pss_cons (ps_set (i := 4) sc_coordinates.nd rfl (Or.inr rfl) (pe_callTy (listK (K := K)) (by rfl) T.b_list (by decide +kernel) (pa_cons (pv 1) pa_nil)))
      (pss_cons (ps_set (i := 5) sc_coordinates.nd rfl (Or.inr rfl) (pe_op op_rep (pe_lst (pa_cons pe_int pa_nil)) (pe_callB (lenK (K := K)) (by rfl) T.b_len PySem.boot_len (pa_cons (pv 0) pa_nil))))
      (pss_cons (ps_for PassesOwn.never rfl (pi_range3 rfl T.b_range (pa_cons (pe_op op_sub (pe_callB (lenK (K := K)) (by rfl) T.b_len PySem.boot_len (pa_cons (pv 0) pa_nil)) pe_int) (pa_cons (pe_un un_neg pe_int) (pa_cons (pe_un un_neg pe_int) pa_nil)))) (pg_name (i := 6) sc_coordinates.nd rfl (Or.inr rfl)) (pss_cons (ps_asg (pe_ix (ixL (K := K)) (pv 0) (pv 6) (fun _ _ => rfl)) (pg_tupK (K := K) (n := 2) rfl (pgs_cons (pg_name (i := 7) sc_coordinates.nd rfl (Or.inr rfl)) (pgs_cons (pg_name (i := 8) sc_coordinates.nd rfl (Or.inr rfl)) pgs_nil))))
      (pss_cons (ps_set (i := 9) sc_coordinates.nd rfl (Or.inr rfl) (pe_call g_power_of hr_power_of rfl m_power_of k_power_of b_power_of .nil pass0 (pa_cons (pv 2) (pa_cons (pe_callB (call_max2 rfl) (by rfl) T.b_max (by decide +kernel) (pa_cons pe_int (pa_cons (pe_op op_sub (pv 3) (pv 8)) pa_nil))) pa_nil))))
      (pss_cons (ps_if (pt_cmpR op_lt (pv 3) (pv 8) (nomark _)) (pss_cons (ps_set (i := 4) sc_coordinates.nd rfl (Or.inr rfl) (pe_lc (own := [("number", 11)]) (tt := tYes) rfl sc_coordinates.nd (pi_listK (K := K) (pv 4)) (blkOk_by (N := ["basis", "row", "p", "most", "rest", "found", "d", "g", "k", "step", "j", "number"]) (sc := defScope s_coordinates) (by decide +kernel)) (fun _ _ _ _ _ => (pg_name (i := 11) sc_coordinates.nd rfl (Or.inl rfl))) (fun _ _ _ _ _ => pts_nil) (fun _ _ _ _ _ => (pe_op op_mulW (pv 11) (pe_call g_power_of hr_power_of rfl m_power_of k_power_of b_power_of .nil pass0 (pa_cons (pv 2) (pa_cons (pe_op op_sub (pv 8) (pv 3)) pa_nil)))))))
      (pss_cons (ps_set (i := 3) sc_coordinates.nd rfl (Or.inr rfl) (pv 8))
      (pss_one (ps_set (i := 9) sc_coordinates.nd rfl (Or.inr rfl) pe_int)))) pss_nil)
      (pss_cons (ps_if (pt_cmpR op_ne (pe_op op_mod (pe_ix (ixL (K := K)) (pv 4) (pv 6) (fun _ _ => rfl)) (pv 9)) pe_int (nomark _)) (pss_one (ps_ret pe_non)) pss_nil)
      (pss_cons (ps_asg (pe_op op_fdivZ (pe_ix (ixL (K := K)) (pv 4) (pv 6) (fun _ _ => rfl)) (pv 9)) (pg_sub (pv 5) (pv 6) set_list))
      (pss_one (ps_set (i := 4) sc_coordinates.nd rfl (Or.inr rfl) (pe_lc (own := [("j", 10)]) (tt := tYes) rfl sc_coordinates.nd (pi_range1 rfl T.b_range (pa_cons (pe_callB (lenK (K := K)) (by rfl) T.b_len PySem.boot_len (pa_cons (pv 4) pa_nil)) pa_nil)) (blkOk_by (N := ["basis", "row", "p", "most", "rest", "found", "d", "g", "k", "step", "j", "number"]) (sc := defScope s_coordinates) (by decide +kernel)) (fun _ _ _ _ _ => (pg_name (i := 10) sc_coordinates.nd rfl (Or.inl rfl))) (fun _ _ _ _ _ => pts_nil) (fun _ _ _ _ _ => (pe_op op_sub (pe_ix (ixL (K := K)) (pv 4) (pv 10) (fun _ _ => rfl)) (pe_op op_mulW (pe_op op_mulW (pe_ix (ixL (K := K)) (pv 5) (pv 6) (fun _ _ => rfl)) (pv 9)) (pe_call g_number_at hr_number_at rfl m_number_at k_number_at b_number_at .nil pass0 (pa_cons (pv 7) (pa_cons (pv 10) pa_nil)))))))))))))))
      (pss_one (ps_ret (pv 5)))))), ?_⟩
  have F0 := Fr.start e
  refine st_set F0 (EvL.ev (el_list (ev_var rfl hrow))) fun vr G1 H1 F1 e1 d1 => ?_
  refine st_setLI F1 (el_rep (el_one (ev_int (i := 0))) (ev_len (ev_var rfl (Den.mono e1 hb))) (by omega) (by omega)) fun fo G2 H2 F2 e2 => ?_
  have ez : List.replicate (((b.length : Nat) : Int)).toNat (0 : Int) = zeros b.length := by
    rw [zeros_eq]; congr 1
  rw [ez] at F2
  refine st_for3 (m := b.length) F2 (ea_cons (ev_I0 (ev_len (ev_var rfl (Den.mono (e1.trans e2) hb))) ev_int) (ea_cons (ev_neg ev_int) (ea_cons (ev_neg ev_int) ea_nil))) (by omega)
    (fun t σ H' => ∃ G' rest found vr d g k step j nu, coN b row p most t = some (rest, found) ∧ rest.length = b.length ∧ found.length = b.length ∧ Bn (400000 + t * 9001) rest ∧ Fr G H G' ((fo, found.map V.int) :: []) H' ∧ Den.D G' vr rest ∧
      σ = [some u, some u2, some (.int p), some (.int most), some vr, some (.ref fo), d, g, k, step, j, nu])
    (fun G3 H3 F3 e3 => ⟨G3, row, zeros b.length, vr, none, none, none, none, none, none, rfl, l, len_zeros _, fun k => by rw [Nat.zero_mul, Nat.add_zero]; exact rb k, F3, Den.mono (e2.trans e3) d1, rfl⟩) ?_ ?_
  · rintro t σ H3 ht ⟨G3, rest, found, vr, d, g, k, step, j, nu, hco, lr, lf, rb', F3, dr, rfl⟩
    have hb3 := Den.mono F3.s.g hb
    have hd : b.length - 1 - t < b.length := by omega
    have hx : b[b.length - 1 - t]? = some (b.getD (b.length - 1 - t) ([], 0)) := by
      rw [List.getD_eq_getElem?_getD, List.getElem?_eq_getElem hd]; rfl
    have hmem := List.mem_iff_getElem?.mpr ⟨_, hx⟩
    obtain ⟨k0, k1, gb⟩ := ks _ hmem
    have ekd : (b.getD (b.length - 1 - t) ([], 0)).2 = kOf b (b.length - 1 - t) := rfl
    have egd : (b.getD (b.length - 1 - t) ([], 0)).1 = gOf b (b.length - 1 - t) := rfl
    refine st_unpack F3 (ev_ix (k := b.length - 1 - t) (ev_var rfl hb3) (ev_var (x := ((b.length - 1 - t : Nat) : Int)) rfl rfl) rfl hx) fun v1 v2 G4 H4 F4 e4 d4 d5 => ?_
    rw [ekd] at k0 k1 d5
    rw [egd] at gb d4
    have hstep : coN b row p most (t + 1) = coSt b p most (b.length - 1 - t) (coN b row p most t) := rfl
    rw [hco] at hstep
    unfold coSt at hstep
    dsimp only at hstep
    generalize kOf b (b.length - 1 - t) = kk at *
    generalize gOf b (b.length - 1 - t) = gg at *
    obtain rfl : v2 = V.int kk := d5
    have sp := pw_sz (p := p) (k := most - kk) (by omega) k1
    have s0 := pw_pos p0 (most - kk)
    refine st_setI F4 ((ev_call (Pre := PwPre) (F := fun x : Int × Int × Unit => pw x.1 x.2.1) (x := (p, max 0 (most - kk), ())) (ea_cons (ev_var rfl rfl) (ea_cons (ev_max ev_int (ev_I0 (ev_var (x := most) rfl rfl) (ev_var (x := kk) rfl rfl))) ea_nil)) ⟨by dsimp only; omega, by dsimp only; omega, by dsimp only; omega⟩).cast (y := pw p (most - kk)) (by dsimp only; congr 1; omega)) fun G5 H5 F5 e5 => ?_
    refine st_if F5 (et_test (ev_B0 (ev_var (x := most) rfl rfl) (ev_var (x := kk) rfl rfl))) (fun hb G6 H6 F6 e6 => ?_) (fun hb G6 H6 F6 e6 => ?_)
    · have := of_decide_eq_true hb; omega
    refine nxt ?_
    have dr6 := Den.mono ((e4.trans e5).trans e6) dr
    refine st_if F6 (et_test (ev_neI (ev_I (ev_ixI (k := b.length - 1 - t) (ev_var rfl dr6) (ev_var (x := ((b.length - 1 - t : Nat) : Int)) rfl rfl) rfl (by omega)) (ev_var (x := pw p (most - kk)) rfl rfl) (by show 0 < pw p (most - kk); exact s0)) ev_int)) (fun hb G7 H7 F7 e7 => ?_) (fun hb G7 H7 F7 e7 => ?_)
    · have hb : at_ rest (b.length - 1 - t) % pw p (most - kk) ≠ 0 := bnT hb
      refine st_ret F7 (x := (none : Option L)) ev_non fun v G8 H8 s8 d8 => q v G8 H8 s8 ?_
      have : coN b row p most (t + 1) = none := by
        rw [hstep, if_pos hb]
      rw [co_none (by omega) this]; exact d8
    · have hb : at_ rest (b.length - 1 - t) % pw p (most - kk) = 0 := bnF hb
      refine nxt ?_
      have dr7 := Den.mono e7 dr6
      have d47 : Den.D G7 v1 gg := Den.mono ((e5.trans e6).trans e7) d4
      refine st_setIx F7 rfl (ev_I (ev_ixI (k := b.length - 1 - t) (ev_var rfl dr7) (ev_var (x := ((b.length - 1 - t : Nat) : Int)) rfl rfl) rfl (by omega)) (ev_var (x := pw p (most - kk)) rfl rfl) (cdiv (a := 3000) (by omega) sp (by decide))) (ev_var (x := ((b.length - 1 - t : Nat) : Int)) rfl rfl) rfl (by rw [List.length_map]; omega) fun u8 G8 H8 F8 e8 d8 => ?_
      obtain rfl : u8 = V.int _ := d8
      rw [fdivE (show 0 ≤ pw p (most - kk) by omega)] at F8
      change Fr G H G8 [(fo, (found.map V.int).set (b.length - 1 - t) (V.int (at_ rest (b.length - 1 - t) / pw p (most - kk))))] H8 at F8
      rw [← List.map_set] at F8
      have hq : at_ rest (b.length - 1 - t) / pw p (most - kk) * pw p (most - kk) = at_ rest (b.length - 1 - t) := Int.ediv_mul_cancel (Int.dvd_of_emod_eq_zero hb)
      have hqb : (at_ rest (b.length - 1 - t) / pw p (most - kk)).natAbs ≤ 2 ^ (400000 + t * 9001) := Nat.le_trans (Int.natAbs_ediv_le_natAbs _ _) (rb' _)
      have ht20 : t * 9001 ≤ 180020 := by omega
      refine st_set F8 (EvL.ev (el_lcR (n := ((rest.length : Nat) : Int)) (ys := tab rest.length (fun j => at_ rest j - at_ rest (b.length - 1 - t) / pw p (most - kk) * pw p (most - kk) * at_ gg j)) (ea_cons (ev_len (ev_var rfl (Den.mono e8 dr7))) ea_nil) (by rw [len_tab]; simp) (by omega) (by omega) (fun _ => rfl) fun j y' G'' e'' hy' => ?_)) fun v9 G9 H9 F9 e9 d9 => ?_
      · obtain ⟨hj, rfl⟩ := range_at hy'
        refine ev_I0 (ev_ixI (k := j) (ev_var rfl (Den.mono (e8.trans e'') dr7)) (ev_var rfl rfl) rfl hj) (ev_I (ev_I ((ev_ixoI (k := b.length - 1 - t) rfl List.mem_cons_self (ev_var (x := ((b.length - 1 - t : Nat) : Int)) rfl rfl) rfl (by rw [List.length_set]; omega)).cast (y := at_ rest (b.length - 1 - t) / pw p (most - kk)) ?_) (ev_var (x := pw p (most - kk)) rfl rfl) (cmul hqb sp (by omega)))
          (ev_call (Pre := NaPre) (F := fun x : L × Int × Unit => at_ x.1 x.2.1.toNat) (x := (gg, (j : Int), ())) (ea_cons (ev_var rfl (Den.mono (e8.trans e'') d47)) (ea_cons (ev_var rfl rfl) ea_nil)) (by show (0 : Int) ≤ j; omega)) (cmul (a := 400000 + t * 9001) (b := 9000) ?_ (gb j) (by omega)))
        · show at_ (found.set _ _) _ = _
          rw [at_set, if_pos ⟨rfl, by omega⟩]
        · rw [hq]; exact rb' _
      refine ⟨G9, _, found.set (b.length - 1 - t) (at_ rest (b.length - 1 - t) / pw p (most - kk)), v9, _, _, _, _, _, _, ?_, ?_, ?_, ?_, F9, d9, rfl⟩
      · rw [hstep, if_neg (by simpa using hb)]
      · rw [len_tab]; exact lr
      · rw [List.length_set]; exact lf
      · intro j
        rw [at_tab, hq]
        split
        · have h1 := natAbs_mul_le (rb' (b.length - 1 - t)) (gb j)
          have h2 : (at_ rest j).natAbs ≤ 2 ^ (400000 + t * 9001 + 9000) := Nat.le_trans (rb' j) (Nat.pow_le_pow_right (by decide) (by omega))
          have := natAbs_sub_le h2 h1
          have e9 : 400000 + (t + 1) * 9001 = 400000 + t * 9001 + 9000 + 1 := by omega
          rw [e9]; exact this
        · exact Nat.zero_le _
  · rintro σ H3 ⟨G3, rest, found, vr, d, g, k, step, j, nu, hco, lr, lf, rb', F3, dr, rfl⟩
    refine st_reto F3 rfl (xs := found) (d_intsV _) fun v G6 H6 s6 d6 => q v G6 H6 s6 ?_
    have : co b row p most = some found := by unfold co; rw [hco]; rfl
    rw [this]; exact d6
end
end Bw
set_option Elab.async false
set_option linter.all false
set_option maxRecDepth 100000
set_option maxHeartbeats 4000000
namespace Bw
open PySem L2 Bd
/-! ### a def that changes two own lists of its caller -/
def but2 (H : Hp) (a b : Addr) : Hp := fun c => if c = a ∨ c = b then none else H c
theorem but2_ne {H : Hp} {a b c : Addr} {o : HO} (h : but2 H a b c = some o) : c ≠ a ∧ c ≠ b ∧ H c = some o := by
  unfold but2 at h
  by_cases q : c = a ∨ c = b
  · rw [if_pos q] at h; cases h
  · rw [if_neg q] at h
    exact ⟨fun z => q (.inl z), fun z => q (.inr z), h⟩
theorem Fr.start2 {G H : Hp} {l1 l2 : Addr} {rs ms : List V} (o : Ok G [(l1, rs), (l2, ms)] H) (hne : l1 ≠ l2) : Fr G (but2 H l1 l2) G [(l1, rs), (l2, ms)] H :=
  ⟨⟨Same.refl _, o.i, fun c u e => (but2_ne e).2.2, fun _ h _ => h⟩, o, fun p hp => by
    unfold but2
    rcases List.mem_cons.mp hp with rfl | hp
    · rw [if_pos (.inl rfl)]
    · rw [List.mem_singleton.mp hp, if_pos (.inr rfl)], by simp [hne]⟩
theorem Fr.call2 {Gc Hc G H G2 H2 : Hp} {L : Ls} {l1 l2 : Addr} {rs ms rs' ms' : List V} (F : Fr Gc Hc G ((l1, rs) :: (l2, ms) :: L) H) (C : Fr G (but2 H l1 l2) G2 [(l1, rs'), (l2, ms')] H2) : Fr Gc Hc G2 ((l1, rs') :: (l2, ms') :: L) H2 := by
  have f1 : Hc l1 = none := F.f (l1, rs) List.mem_cons_self
  have f2 : Hc l2 = none := F.f (l2, ms) (List.mem_cons_of_mem _ List.mem_cons_self)
  have keep : ∀ c o, c ≠ l1 → c ≠ l2 → H c = some o → H2 c = some o := fun c o n1 n2 e => C.s.h c o (by unfold but2; rw [if_neg (fun z => z.elim n1 n2)]; exact e)
  have nog : ∀ c, c ≠ l1 → c ≠ l2 → G c = none → H c ≠ none → G2 c = none := fun c n1 n2 e1 e2 => C.s.d c e1 (by unfold but2; rw [if_neg (fun z => z.elim n1 n2)]; exact e2)
  have hnd := F.nd
  simp only [List.map_cons, List.nodup_cons, List.mem_cons, not_or] at hnd
  refine ⟨⟨F.s.g.trans C.s.g, C.s.i, fun c o e => ?_, fun c h1 h2 => ?_⟩, ⟨C.s.i, fun p hp => ?_⟩, fun p hp => ?_, ?_⟩
  · exact keep c o (fun z => by rw [z, f1] at e; cases e) (fun z => by rw [z, f2] at e; cases e) (F.s.h c o e)
  · exact nog c (fun z => h2 (by rw [z]; exact f1)) (fun z => h2 (by rw [z]; exact f2)) (F.s.d c h1 h2) (not_none F.s.h h2)
  · rcases List.mem_cons.mp hp with rfl | hp
    · exact C.o.l (l1, rs') List.mem_cons_self
    · rcases List.mem_cons.mp hp with rfl | hp
      · exact C.o.l (l2, ms') (List.mem_cons_of_mem _ List.mem_cons_self)
      · have h := F.o.l p (List.mem_cons_of_mem _ (List.mem_cons_of_mem _ hp))
        have n1 : p.1 ≠ l1 := fun z => hnd.1.2 (by rw [← z]; exact List.mem_map.mpr ⟨p, hp, rfl⟩)
        have n2 : p.1 ≠ l2 := fun z => hnd.2.1 (by rw [← z]; exact List.mem_map.mpr ⟨p, hp, rfl⟩)
        exact ⟨nog _ n1 n2 h.1 (by rw [h.2]; simp), keep _ _ n1 n2 h.2⟩
  · rcases List.mem_cons.mp hp with rfl | hp
    · exact f1
    · rcases List.mem_cons.mp hp with rfl | hp
      · exact f2
      · exact F.f p (List.mem_cons_of_mem _ (List.mem_cons_of_mem _ hp))
  · simp only [List.map_cons, List.nodup_cons, List.mem_cons, not_or]; exact hnd
theorem own_at {α : Type} [Den α] {G : Hp} {rs : List V} {rows : List α} (h : Paired (Den.D G) rs rows) {i : Nat} (hi : i < rows.length) (d : α) : ∃ v, rs[i]? = some v ∧ Den.D G v (rows.getD i d) := by
  refine Paired.at h ?_
  rw [List.getD_eq_getElem?_getD, List.getElem?_eq_getElem hi]; rfl
theorem ev_int1 {σ : L2.St} {G : Hp} {L : Ls} {ta : TE} {b : Bool} (ha : Ev ta σ G L b) : Ev (tCB (fun xs H Q => (∃ i, xs = [.int i] ∧ Q (.int i) H) ∨ ∃ k, xs = [.bl k] ∧ Q (.int (if k then 1 else 0)) H) (tCons ta tNil)) σ G L (if b then (1 : Int) else 0) := fun G1 H1 e o Q q =>
  ha G1 H1 e o _ fun v G2 H2 s2 d2 => by
    obtain rfl : v = V.bl b := d2
    exact .inr ⟨b, rfl, q _ G2 H2 s2 rfl⟩
theorem st_swap2 {K : PySem.W.Frag} {σ : L2.St} {G0 H0 G H : Hp} {L : Ls} {D' : Ends} {j a b : Nat} {l : Addr} {vs : List V} {ka kb : Nat} {va vb : V} (F : Fr G0 H0 G ((l, vs) :: L) H) (hs : σ[j]? = some (some (.ref l))) (ha : σ[a]? = some (some (.int (ka : Int)))) (hb : σ[b]? = some (some (.int (kb : Int))))
    (hva : vs[ka]? = some va) (hvb : vs[kb]? = some vb) (q : ∀ G2 H2, Fr G0 H0 G2 ((l, (vs.set ka vb).set kb va) :: L) H2 → Same G G2 → D'.nx σ H2) :
    tAsg (tTup (tCons (tOp (rIxL K) (tVar j) (tVar b)) (tCons (tOp (rIxL K) (tVar j) (tVar a)) tNil))) (gTup K 2 (gCons (gSub (tVar j) (tVar a) rSetL) (gCons (gSub (tVar j) (tVar b) rSetL) gNil))) D' σ H := by
  have hl := (F.o.l (l, vs) List.mem_cons_self).2
  dsimp only at hl
  have la := (List.getElem?_eq_some_iff.mp hva).1
  have lb := (List.getElem?_eq_some_iff.mp hvb).1
  have hvb' : atI vs (kb : Int) = some vb := atI_k rfl hvb
  have hva' : atI vs (ka : Int) = some va := atI_k rfl hva
  refine ⟨_, hs, _, hb, ⟨l, vs, _, vb, rfl, rfl, SqL.of hl, hvb', ?_⟩⟩
  refine ⟨_, hs, _, ha, ⟨l, vs, _, va, rfl, rfl, SqL.of hl, hva', ?_⟩⟩
  refine ⟨by show 2 ≤ sizeLine; decide, fun p hp => ?_⟩
  have s := Step.new (o := .tup [vb, va]) F.o.i hp
  have F2 := F.step s
  have hl2 := (F2.o.l (l, vs) List.mem_cons_self).2
  refine ⟨p, [vb, va], rfl, SqT.of upd_same, rfl, vb, [va], rfl, _, hs, _, ha, l, vs, _, ka, rfl, rfl, hl2, ?_, va, [], rfl, _, hs, _, hb, l, vs.set ka vb, _, kb, rfl, rfl, upd_same, ?_, ?_⟩
  · unfold ixN; rw [if_pos (by omega), if_pos (by omega)]; simp
  · unfold ixN; rw [if_pos (by omega), if_pos (by rw [List.length_set]; omega)]; simp
  · have F3 := (F2.upd (ws := vs.set ka vb)).upd (ws := (vs.set ka vb).set kb va)
    exact ⟨rfl, q _ _ F3 s.g⟩
set_option exponentiation.threshold 20000 in
theorem two8000 : (2 : Int) ^ 6 ≤ 2 ^ 8000 := by decide +kernel
section
variable {P : Program} {w : World} {K : PySem.W.Frag} {mg : Str → Option Value} {base : Heap}
/-! ### clear_column -/
abbrev s_clear_column : Stmt := top 45
theorem sc_clear_column : FnScope ["rows", "marks", "done", "column", "p", "back", "i", "often", "one", "other"] ["rows", "marks", "done", "column", "p"] (defScope s_clear_column) := ⟨rfl, rfl, rfl, by decide +kernel, rfl, by decide +kernel, by decide +kernel⟩
  -- slots 0:rows 1:marks 2:done 3:column 4:p 5:back 6:i 7:often 8:one 9:other
abbrev sp_clear_column : Sp := fun vs H Q E => ∃ (G : Hp) (l1 l2 : Addr) (rs ms : List V) (rows marks : LL) (done col : Nat) (p : Int) (m wd : Nat),
  vs = [.ref l1, .ref l2, .int (done : Int), .int (col : Int), .int p] ∧ Ok G [(l1, rs), (l2, ms)] H ∧ l1 ≠ l2 ∧ Paired (Den.D G) rs rows ∧ Paired (Den.D G) ms marks ∧ Mat rows m wd p ∧ Mat marks m m p ∧ done < m ∧ col < wd ∧ 0 < p ∧ p ≤ 47 ∧ m ≤ 200 ∧ wd ≤ 10000 ∧
  ∀ G2 H2 rs' ms', Fr G (but2 H l1 l2) G2 [(l1, rs'), (l2, ms')] H2 → Paired (Den.D G2) rs' (clr rows marks done col p).1 → Paired (Den.D G2) ms' (clr rows marks done col p).2 → Q .non H2
theorem sub_at {o p : Int} {a b : L} {i : Nat} {x z y : Int} (h1 : a[i]? = some x) (h2 : b[i]? = some z) (h3 : (subRow o p a b)[i]? = some y) : y = (x - o * z) % p := by
  unfold subRow at h3
  rw [List.getElem?_zipWith, h1, h2] at h3
  exact (Option.some.inj h3).symm
theorem at_of {a : L} {i : Nat} {x : Int} (h : a[i]? = some x) : at_ a i = x := by
  unfold at_; rw [List.getD_eq_getElem?_getD, h]; rfl
theorem ok_clear_column (T : Tx mg) (D_inverse : Df P w K mg base "inverse" 1 ["number", "modulus"] sp_inverse) {f : Addr} {fd : FuncData} (F : Fun K "clear_column" "clear_column" s_clear_column f fd) : FnOk P w K mg base CX0 2 f fd ["rows", "marks", "done", "column", "p"] sp_clear_column := by
  refine F.ok sc_clear_column (fun vs H Q E h => ?_) (fun cdv A outer s H vs Q E hr h => ?_)
  · obtain ⟨_, _, _, _, _, _, _, _, _, _, _, _, rfl, _⟩ := h; rfl
  obtain ⟨G, l1, l2, rs, ms, rows, marks, done, col, p, m, wd, rfl, o, hne, hrs, hms, R, U, hd, hc, p0, p1, hm, hw, q⟩ := h
  obtain ⟨f_inverse, fd_inverse, g_inverse, m_inverse, k_inverse, b_inverse⟩ := D_inverse
  have hr_inverse : Room 1 _ := hr.mono (by decide)
  refine ⟨_, (pss_cons (ps_set (i := 5) sc_clear_column.nd rfl (Or.inl rfl) (pe_call g_inverse hr_inverse rfl m_inverse k_inverse b_inverse .nil pass0 (pa_cons (pe_ix (ixL (K := K)) (pe_ix (ixL (K := K)) (pv 0) (pv 2) (fun _ _ => rfl)) (pv 3) (fun _ _ => rfl)) (pa_cons (pv 4) pa_nil))))
      (pss_one (ps_for PassesOwn.never rfl (pi_range2 rfl T.b_range (pa_cons (pe_op op_add (pv 2) pe_int) (pa_cons (pe_callB (lenK (K := K)) (by rfl) T.b_len PySem.boot_len (pa_cons (pv 0) pa_nil)) pa_nil))) (pg_name (i := 6) sc_clear_column.nd rfl (Or.inl rfl)) (pss_cons (ps_set (i := 7) sc_clear_column.nd rfl (Or.inr rfl) (pe_op op_mod (pe_op op_mulW (pe_ix (ixL (K := K)) (pe_ix (ixL (K := K)) (pv 0) (pv 6) (fun _ _ => rfl)) (pv 3) (fun _ _ => rfl)) (pv 5)) (pv 4)))
      (pss_one (ps_if (pt_cmpR op_ne (pv 7) pe_int (nomark _)) (pss_cons (ps_asg (pe_lc (own := [("one", 8), ("other", 9)]) (tt := tYes) rfl sc_clear_column.nd (pi_zipK (K := K) (by rfl) T.b_zip (pa_cons (pe_ix (ixL (K := K)) (pv 0) (pv 6) (fun _ _ => rfl)) (pa_cons (pe_ix (ixL (K := K)) (pv 0) (pv 2) (fun _ _ => rfl)) pa_nil))) (blkOk_by (N := ["rows", "marks", "done", "column", "p", "back", "i", "often", "one", "other"]) (sc := defScope s_clear_column) (by decide +kernel)) (fun _ _ _ _ _ => (pg_tupK (K := K) (n := 2) rfl (pgs_cons (pg_name (i := 8) sc_clear_column.nd rfl (Or.inl rfl)) (pgs_cons (pg_name (i := 9) sc_clear_column.nd rfl (Or.inl rfl)) pgs_nil)))) (fun _ _ _ _ _ => pts_nil) (fun _ _ _ _ _ => (pe_op op_mod (pe_op op_sub (pv 8) (pe_op op_mulW (pv 7) (pv 9))) (pv 4)))) (pg_sub (pv 0) (pv 6) set_list))
      (pss_one (ps_asg (pe_lc (own := [("one", 8), ("other", 9)]) (tt := tYes) rfl sc_clear_column.nd (pi_zipK (K := K) (by rfl) T.b_zip (pa_cons (pe_ix (ixL (K := K)) (pv 1) (pv 6) (fun _ _ => rfl)) (pa_cons (pe_ix (ixL (K := K)) (pv 1) (pv 2) (fun _ _ => rfl)) pa_nil))) (blkOk_by (N := ["rows", "marks", "done", "column", "p", "back", "i", "often", "one", "other"]) (sc := defScope s_clear_column) (by decide +kernel)) (fun _ _ _ _ _ => (pg_tupK (K := K) (n := 2) rfl (pgs_cons (pg_name (i := 8) sc_clear_column.nd rfl (Or.inl rfl)) (pgs_cons (pg_name (i := 9) sc_clear_column.nd rfl (Or.inl rfl)) pgs_nil)))) (fun _ _ _ _ _ => pts_nil) (fun _ _ _ _ _ => (pe_op op_mod (pe_op op_sub (pv 8) (pe_op op_mulW (pv 7) (pv 9))) (pv 4)))) (pg_sub (pv 1) (pv 6) set_list)))) pss_nil)))))), ?_⟩
  have F0 := Fr.start2 o hne
  have pb : p.natAbs ≤ 2 ^ 6 := by omega
  obtain ⟨vd, hvd, dvd⟩ := own_at hrs (i := done) (by rw [R.len]; exact hd) []
  have wdd := R.wid done hd
  have ib := inv_range (x := ent rows done col) p0
  refine st_setI F0 (ev_call (Pre := InvPre) (F := fun x : Int × Int × Unit => inv x.1 x.2.1) (x := (ent rows done col, p, ())) (ea_cons (ev_ixI (k := col) (ev_ixo (k := done) rfl List.mem_cons_self (ev_var (x := (done : Int)) rfl rfl) rfl hvd dvd) (ev_var (x := (col : Int)) rfl rfl) rfl (by omega)) (ea_cons (ev_var rfl rfl) ea_nil)) ⟨p0, by
    have := two8000
    dsimp only
    generalize (2 : Int) ^ 8000 = z at *
    omega⟩) fun G1 H1 F1 e1 => ?_
  dsimp only
  have lr : rs.length = m := by rw [Paired.len hrs]; exact R.len
  refine st_for2 F1 (ea_cons (ev_I0 (ev_var (x := (done : Int)) rfl rfl) ev_int) (ea_cons (ev_leno rfl List.mem_cons_self) ea_nil)) (by omega) (by omega) (by omega) (by omega)
    (fun t σ H' => ∃ G' rs' ms' i of a b, Fr G (but2 H l1 l2) G' [(l1, rs'), (l2, ms')] H' ∧ Paired (Den.D G') rs' (clrN rows marks done col p t).1 ∧ Paired (Den.D G') ms' (clrN rows marks done col p t).2 ∧
      σ = [some (.ref l1), some (.ref l2), some (.int (done : Int)), some (.int (col : Int)), some (.int p), some (.int (inv (ent rows done col) p)), i, of, a, b])
    (fun G2 H2 F2 e2 => ⟨G2, rs, ms, none, none, none, none, F2, Paired.imp (fun _ _ z => Den.mono (e1.trans e2) z) hrs, Paired.imp (fun _ _ z => Den.mono (e1.trans e2) z) hms, rfl⟩) ?_ ?_
  · rintro t σ H2 ht ⟨G2, rs', ms', i, of, a, b, F2, hrs2, hms2, rfl⟩
    have ht' : done + 1 + t < m := by omega
    obtain ⟨R2, U2, _, k0, _, _⟩ := clrN_ok (c := col) p0 hd R U t (by omega)
    have e : clrN rows marks done col p (t + 1) = clrSt col done (inv (ent rows done col) p) p t (clrN rows marks done col p t) := rfl
    rw [e]
    generalize clrN rows marks done col p t = st at *
    obtain ⟨ro, ma⟩ := st
    dsimp only at hrs2 hms2 R2 U2
    generalize hB : inv (ent rows done col) p = bk at *
    obtain ⟨vi, hvi, dvi⟩ := own_at hrs2 (i := done + 1 + t) (by rw [R2.len]; exact ht') []
    obtain ⟨vdn, hvdn, dvdn⟩ := own_at hrs2 (i := done) (by rw [R2.len]; exact hd) []
    obtain ⟨ui, hui, dui⟩ := own_at hms2 (i := done + 1 + t) (by rw [U2.len]; exact ht') []
    obtain ⟨un, hun, dun⟩ := own_at hms2 (i := done) (by rw [U2.len]; exact hd) []
    have wi := R2.wid _ ht'
    have wn := R2.wid _ hd
    have xi := U2.wid _ ht'
    have xn := U2.wid _ hd
    have eb : (ent ro (done + 1 + t) col).natAbs ≤ 2 ^ 6 := by have := R2.lo (done + 1 + t) col; have := R2.hi (done + 1 + t) col; omega
    have bb : bk.natAbs ≤ 2 ^ 6 := by omega
    have eidx : (done : Int) + 1 + (t : Int) = ((done + 1 + t : Nat) : Int) := by omega
    refine st_setI (x := ent ro (done + 1 + t) col * bk % p) F2 (ev_I (ev_I (ev_ixI (k := col) (ev_ixo (k := done + 1 + t) rfl List.mem_cons_self (ev_var (x := (done : Int) + 1 + (t : Int)) rfl rfl) eidx hvi dvi) (ev_var (x := (col : Int)) rfl rfl) rfl (by omega)) (ev_var (x := bk) rfl rfl) (cmul eb bb (by decide))) (ev_var (x := p) rfl rfl) (by show 0 < p; exact p0)) fun G3 H3 F3 e3 => ?_
    have hob : (ent ro (done + 1 + t) col * bk % p).natAbs ≤ 2 ^ 6 := by
      have := Int.emod_nonneg (ent ro (done + 1 + t) col * bk) (show p ≠ 0 by omega)
      have := Int.emod_lt_of_pos (ent ro (done + 1 + t) col * bk) p0
      omega
    have hrs3 := Paired.imp (fun _ _ z => Den.mono e3 z) hrs2
    have hms3 := Paired.imp (fun _ _ z => Den.mono e3 z) hms2
    unfold clrSt
    dsimp only
    generalize ent ro (done + 1 + t) col * bk % p = oo at *
    refine st_if F3 (et_test (ev_neI (ev_var (x := oo) rfl rfl) ev_int)) (fun hb G4 H4 F4 e4 => ?_) (fun hb G4 H4 F4 e4 => ?_)
    · have hb := bnT hb
      rw [if_neg hb]
      have dvi4 := Den.mono (e3.trans e4) dvi
      have dvn4 := Den.mono (e3.trans e4) dvdn
      have lsub := len_subRow oo p (ro.getD (done + 1 + t) []) (ro.getD done []) (by rw [wi, wn])
      refine st_setIx F4 rfl (x := subRow oo p (ro.getD (done + 1 + t) []) (ro.getD done [])) (EvL.ev (el_lcZ (xs := ro.getD (done + 1 + t) []) (zs := ro.getD done []) (ys := subRow oo p (ro.getD (done + 1 + t) []) (ro.getD done [])) (ea_cons (ev_ixo (k := done + 1 + t) rfl List.mem_cons_self (ev_var (x := (done : Int) + 1 + (t : Int)) rfl rfl) eidx hvi dvi4) (ea_cons (ev_ixo (k := done) rfl List.mem_cons_self (ev_var (x := (done : Int)) rfl rfl) rfl hvdn dvn4) ea_nil)) (by rw [wi, wn]) (by rw [lsub]) (by omega) (fun _ _ => rfl) fun j x z y v w G'' e'' hx hz hy dv dw => ?_))
        (ev_var (x := (done : Int) + 1 + (t : Int)) rfl rfl) eidx (by rw [Paired.len hrs3, R2.len]; exact ht') fun v5 G5 H5 F5 e5 d5 => ?_
      · obtain rfl : v = V.int x := dv
        obtain rfl : w = V.int z := dw
        rw [sub_at hx hz hy]
        have zb : z.natAbs ≤ 2 ^ 6 := by
          have h1 := R2.lo done j
          have h2 := R2.hi done j
          have h3 : ent ro done j = z := at_of hz
          omega
        exact ev_I (ev_I0 (ev_var (x := x) rfl rfl) (ev_I (ev_var (x := oo) rfl rfl) (ev_var (x := z) rfl rfl) (cmul hob zb (by decide)))) (ev_var (x := p) rfl rfl) (by show 0 < p; exact p0)
      have dui5 := Den.mono ((e3.trans e4).trans e5) dui
      have dun5 := Den.mono ((e3.trans e4).trans e5) dun
      have lsub2 := len_subRow oo p (ma.getD (done + 1 + t) []) (ma.getD done []) (by rw [xi, xn])
      refine st_setIx F5.swap rfl (x := subRow oo p (ma.getD (done + 1 + t) []) (ma.getD done [])) (EvL.ev (el_lcZ (xs := ma.getD (done + 1 + t) []) (zs := ma.getD done []) (ys := subRow oo p (ma.getD (done + 1 + t) []) (ma.getD done [])) (ea_cons (ev_ixo (k := done + 1 + t) rfl List.mem_cons_self (ev_var (x := (done : Int) + 1 + (t : Int)) rfl rfl) eidx hui dui5) (ea_cons (ev_ixo (k := done) rfl List.mem_cons_self (ev_var (x := (done : Int)) rfl rfl) rfl hun dun5) ea_nil)) (by rw [xi, xn]) (by rw [lsub2]) (by omega) (fun _ _ => rfl) fun j x z y v w G'' e'' hx hz hy dv dw => ?_))
        (ev_var (x := (done : Int) + 1 + (t : Int)) rfl rfl) eidx (by rw [Paired.len hms3, U2.len]; exact ht') fun v6 G6 H6 F6 e6 d6 => ?_
      · obtain rfl : v = V.int x := dv
        obtain rfl : w = V.int z := dw
        rw [sub_at hx hz hy]
        have zb : z.natAbs ≤ 2 ^ 6 := by
          have h1 := U2.lo done j
          have h2 := U2.hi done j
          have h3 : ent ma done j = z := at_of hz
          omega
        exact ev_I (ev_I0 (ev_var (x := x) rfl rfl) (ev_I (ev_var (x := oo) rfl rfl) (ev_var (x := z) rfl rfl) (cmul hob zb (by decide)))) (ev_var (x := p) rfl rfl) (by show 0 < p; exact p0)
      have e36 := (((e4.trans e5).trans e6))
      exact ⟨G6, _, _, _, _, _, _, F6.swap, Paired.set (Den.mono e6 d5) _ (Paired.imp (fun _ _ z => Den.mono e36 z) hrs3), Paired.set d6 _ (Paired.imp (fun _ _ z => Den.mono e36 z) hms3), rfl⟩
    · have hb := bnF hb
      rw [if_pos hb]
      exact nxt ⟨G4, _, _, _, _, _, _, F4, Paired.imp (fun _ _ z => Den.mono e4 z) hrs3, Paired.imp (fun _ _ z => Den.mono e4 z) hms3, rfl⟩
  · rintro σ H2 ⟨G2, rs', ms', i, of, a, b, F2, hrs2, hms2, rfl⟩
    have e : clr rows marks done col p = clrN rows marks done col p ((rs.length : Int) - ((done : Int) + 1)).toNat := by
      unfold clr clrN
      congr 1
      rw [lr, R.len]; omega
    rw [← e] at hrs2 hms2
    exact q G2 H2 rs' ms' F2 hrs2 hms2
end
end Bw
set_option Elab.async false
set_option linter.all false
set_option maxRecDepth 100000
set_option maxHeartbeats 4000000
namespace Bw
open PySem L2 Bd
section
variable {P : Program} {w : World} {K : PySem.W.Frag} {mg : Str → Option Value} {base : Heap}
/-! ### kernel -/
abbrev s_kernel : Stmt := top 44
theorem sc_kernel : FnScope ["table", "wide", "p", "i", "marks", "rows", "done", "column", "at_row", "row", "j", "number"] ["table", "wide", "p"] (defScope s_kernel) := ⟨rfl, rfl, rfl, by decide +kernel, rfl, by decide +kernel, by decide +kernel⟩
  -- slots 0:table 1:wide 2:p 3:i 4:marks 5:rows 6:done 7:column 8:at_row 9:row 10:j 11:number
structure KePre (x : LL × Int × Int × Unit) : Prop where
  m : x.1.length ≤ 200
  w0 : 0 ≤ x.2.1
  w1 : x.2.1 ≤ 10000
  rs : ∀ r ∈ x.1, r.length = x.2.1.toNat
  pr : ∃ q : Nat, Pr q ∧ x.2.2.1 = (q : Int) ∧ q ≤ 47
abbrev sp_kernel : Sp := SpF KePre fun x : LL × Int × Int × Unit => ker x.1 x.2.1.toNat x.2.2.1
theorem units_at {n i : Nat} {y : L} (h : (units n)[i]? = some y) : i < n ∧ y = unit n i := range_at h
theorem unit_at {n i j : Nat} {y : Int} (h : (unit n i)[j]? = some y) : j < n ∧ y = if i = j then 1 else 0 := range_at h
theorem ev_unit {σ : L2.St} {G : Hp} {L : Ls} {ta tb : TE} {i j : Nat} (ha : Ev ta σ G L (i : Int)) (hb : Ev tb σ G L (j : Int)) : Ev (tCB (fun xs H Q => (∃ i, xs = [.int i] ∧ Q (.int i) H) ∨ ∃ k, xs = [.bl k] ∧ Q (.int (if k then 1 else 0)) H) (tCons (tOp rEq ta tb) tNil)) σ G L (if i = j then (1 : Int) else 0) :=
  (ev_int1 (ev_eqI ha hb)).cast (by
    by_cases h : i = j
    · rw [if_pos h, if_pos (by subst h; simp)]
    · rw [if_neg h, if_neg (by simp; omega)])
theorem noI (H : Hp) (y : Int) : ¬ Den.D H V.non y := fun h => by cases h
def on : Option Nat → Option Int := fun o => o.map fun i => (i : Int)
theorem ok_kernel (T : Tx mg) (D_clear_column : Df P w K mg base "clear_column" 2 ["rows", "marks", "done", "column", "p"] sp_clear_column) {f : Addr} {fd : FuncData} (F : Fun K "kernel" "kernel" s_kernel f fd) : FnOk P w K mg base CX0 3 f fd ["table", "wide", "p"] sp_kernel := by
  refine F.ok sc_kernel (fun vs H Q E h => SpF.len h) (fun cdv A outer s H vs Q E hr h => ?_)
  obtain ⟨G, ⟨tb, wd, p, _⟩, e, ⟨u, _, rfl, htb, _, _, rfl, hw, _, _, rfl, hp, rfl⟩, ⟨m, w0, w1, rs, pr⟩, q⟩ := h
  obtain rfl : _ = V.int wd := hw
  obtain rfl : _ = V.int p := hp
  dsimp only at htb q m w0 w1 rs pr
  obtain ⟨pn, PR, rfl, p47⟩ := pr
  obtain ⟨wn, rfl⟩ : ∃ n : Nat, wd = (n : Int) := ⟨wd.toNat, by omega⟩
  have eN : ((wn : Int)).toNat = wn := by simp
  rw [eN] at rs q
  obtain ⟨f_clear_column, fd_clear_column, g_clear_column, m_clear_column, k_clear_column, b_clear_column⟩ := D_clear_column
  have hr_clear_column : Room 2 _ := hr.mono (by decide)
  refine ⟨_, (pss_cons (ps_setLc (i := 4) (own := [("i", 3)]) (tt := tYes) rfl sc_kernel.nd rfl rfl (sw_true rfl rfl rfl (by decide +kernel)) (pi_range1 rfl T.b_range (pa_cons (pe_callB (lenK (K := K)) (by rfl) T.b_len PySem.boot_len (pa_cons (pv 0) pa_nil)) pa_nil)) (blkOk_by (N := ["table", "wide", "p", "i", "marks", "rows", "done", "column", "at_row", "row", "j", "number"]) (sc := defScope s_kernel) (by decide +kernel)) (fun _ _ _ _ _ => (pg_name (i := 3) sc_kernel.nd rfl (Or.inr rfl))) (fun _ _ _ _ _ => pts_nil) (fun _ _ _ _ _ => (pe_lc (own := [("j", 10)]) (tt := tYes) rfl sc_kernel.nd (pi_range1 rfl T.b_range (pa_cons (pe_callB (lenK (K := K)) (by rfl) T.b_len PySem.boot_len (pa_cons (pv 0) pa_nil)) pa_nil)) (blkOk_by (by rfl)) (fun _ _ _ _ _ => (pg_name (i := 10) sc_kernel.nd rfl (Or.inl rfl))) (fun _ _ _ _ _ => pts_nil) (fun _ _ _ _ _ => (pe_callTy call_int1 (by rfl) T.b_int (by decide +kernel) (pa_cons (pe_cmpR op_eq (pv 3) (pv 10) (nomark _)) pa_nil))))))
      (pss_cons (ps_setLc (i := 5) (own := [("row", 9)]) (tt := tYes) rfl sc_kernel.nd rfl rfl (sw_true rfl rfl rfl (by decide +kernel)) (pi_listK (K := K) (pv 0)) (blkOk_by (N := ["table", "wide", "p", "i", "marks", "rows", "done", "column", "at_row", "row", "j", "number"]) (sc := defScope s_kernel) (by decide +kernel)) (fun _ _ _ _ _ => (pg_name (i := 9) sc_kernel.nd rfl (Or.inl rfl))) (fun _ _ _ _ _ => pts_nil) (fun _ _ _ _ _ => (pe_lc (own := [("number", 11)]) (tt := tYes) rfl sc_kernel.nd (pi_listK (K := K) (pv 9)) (blkOk_by (by rfl)) (fun _ _ _ _ _ => (pg_name (i := 11) sc_kernel.nd rfl (Or.inl rfl))) (fun _ _ _ _ _ => pts_nil) (fun _ _ _ _ _ => (pe_op op_mod (pv 11) (pv 2))))))
      (pss_cons (ps_set (i := 6) sc_kernel.nd rfl (Or.inl rfl) pe_int)
      (pss_cons (ps_for PassesOwn.never rfl (pi_range1 rfl T.b_range (pa_cons (pv 1) pa_nil)) (pg_name (i := 7) sc_kernel.nd rfl (Or.inl rfl)) (pss_cons (ps_set (i := 8) sc_kernel.nd rfl (Or.inl rfl) pe_non)
      (pss_cons (ps_for PassesOwn.never rfl (pi_range2 rfl T.b_range (pa_cons (pv 6) (pa_cons (pe_callB (lenK (K := K)) (by rfl) T.b_len PySem.boot_len (pa_cons (pv 5) pa_nil)) pa_nil))) (pg_name (i := 3) sc_kernel.nd rfl (Or.inl rfl)) (pss_one (ps_if (pt_cmpR op_ne (pe_ix (ixL (K := K)) (pe_ix (ixL (K := K)) (pv 5) (pv 3) (fun _ _ => rfl)) (pv 7) (fun _ _ => rfl)) pe_int (nomark _)) (pss_one (ps_set (i := 8) sc_kernel.nd rfl (Or.inl rfl) (pv 3))) pss_nil)))
      (pss_one (ps_if (pt_cmpR op_notN (pv 8) pe_non (nomark _)) (pss_cons (ps_asg (pe_tup (pa_cons (pe_ix (ixL (K := K)) (pv 5) (pv 8) (fun _ _ => rfl)) (pa_cons (pe_ix (ixL (K := K)) (pv 5) (pv 6) (fun _ _ => rfl)) pa_nil))) (pg_tupK (K := K) (n := 2) rfl (pgs_cons (pg_sub (pv 5) (pv 6) set_list) (pgs_cons (pg_sub (pv 5) (pv 8) set_list) pgs_nil))))
      (pss_cons (ps_asg (pe_tup (pa_cons (pe_ix (ixL (K := K)) (pv 4) (pv 8) (fun _ _ => rfl)) (pa_cons (pe_ix (ixL (K := K)) (pv 4) (pv 6) (fun _ _ => rfl)) pa_nil))) (pg_tupK (K := K) (n := 2) rfl (pgs_cons (pg_sub (pv 4) (pv 6) set_list) (pgs_cons (pg_sub (pv 4) (pv 8) set_list) pgs_nil))))
      (pss_cons (ps_expr (pe_call g_clear_column hr_clear_column rfl m_clear_column k_clear_column b_clear_column .nil pass0 (pa_cons (pv 5) (pa_cons (pv 4) (pa_cons (pv 6) (pa_cons (pv 7) (pa_cons (pv 2) pa_nil)))))))
      (pss_one (ps_aug (i := 6) sc_kernel.nd rfl (Or.inl rfl) pe_int ip_add))))) pss_nil)))))
      (pss_one (ps_ret (pe_slice (slL (K := K)) (pv 4) (po_some (pv 6)) po_none))))))), ?_⟩
  have F0 := Fr.start e
  have pp := PR.pos
  have hwid : ∀ i, i < tb.length → (tb.getD i []).length = wn := fun i hi => rs _ (List.mem_iff_getElem?.mpr ⟨i, by rw [List.getD_eq_getElem?_getD, List.getElem?_eq_getElem hi]; rfl⟩)
  refine st_setL F0 (el_lcR (n := ((tb.length : Nat) : Int)) (ys := units tb.length) (ea_cons (ev_len (ev_var rfl htb)) ea_nil) (by rw [len_units]; simp) (by omega) (by omega) (fun _ => rfl) fun i y G' e' hy => EvL.ev (el_lcR (n := ((tb.length : Nat) : Int)) (ys := y) (ea_cons (ev_len (ev_var rfl (Den.mono e' htb))) ea_nil) (by rw [(units_at hy).2, len_unit]; simp) (by omega) (by omega) (fun _ => rfl) fun j z G'' e'' hz => ?_)) fun lm ms G1 H1 F1 e1 hms => ?_
  · obtain ⟨_, rfl⟩ := units_at hy
    rw [(unit_at hz).2]
    exact ev_unit (ev_var rfl rfl) (ev_var rfl rfl)
  refine st_setL F1 (el_lc (xs := tb) (ys := tb.map fun r => r.map (· % (pn : Int))) (ev_var rfl (Den.mono e1 htb)) (by simp) (by omega) fun i x y v G' e' hx hy d => tn_name rfl (EvL.ev (el_lc (xs := x) (ys := y) (ev_var rfl d) ?_ ?_ fun j z y' v' G'' e'' hz hy' dz => tn_name rfl ?_))) fun lr rr G2 H2 F2 e2 hrr => ?_
  · rw [map_at hx hy, List.length_map]
  · rw [rs x (List.mem_iff_getElem?.mpr ⟨i, hx⟩)]; omega
  · obtain rfl : v' = V.int z := dz
    rw [map_at hx hy] at hy'
    rw [map_at hz hy']
    exact ev_I (ev_var (x := z) rfl rfl) (ev_var (x := (pn : Int)) rfl rfl) (by show 0 < (pn : Int); exact pp)
  dsimp only
  refine st_seq ?_
  refine st_setI F2 (ev_int (i := 0)) fun G3 H3 F3 e3 => ?_
  refine st_for1 F3 (ea_cons (ev_var (x := (wn : Int)) rfl rfl) ea_nil) (by omega) (by omega)
    (fun c σ H' => ∃ G' rr ms i col ar ro j nu, Fr G H G' ((lr, rr) :: (lm, ms) :: []) H' ∧ Paired (Den.D G') rr (kerN tb pn c).1.1 ∧ Paired (Den.D G') ms (kerN tb pn c).1.2 ∧
      σ = [some u, some (.int (wn : Int)), some (.int (pn : Int)), i, some (.ref lm), some (.ref lr), some (.int ((kerN tb pn c).2 : Int)), col, ar, ro, j, nu])
    (fun G4 H4 F4 e4 => ⟨G4, rr, ms, none, none, none, none, none, none, F4, Paired.imp (fun _ _ z => Den.mono (e3.trans e4) z) hrr, Paired.imp (fun _ _ z => Den.mono ((e2.trans e3).trans e4) z) hms, rfl⟩) ?_ ?_
  · rintro c σ H4 hc ⟨G4, rr, ms, i0, col0, ar0, ro, j0, nu, F4, hrr, hms, rfl⟩
    have hc : c < wn := by omega
    have KI0 := kerN_ok PR (T := tb) (m := tb.length) (w := wn) rfl hwid c
    have e : kerN tb pn (c + 1) = kerSt pn c (kerN tb pn c) := rfl
    rw [e]
    generalize kerN tb pn c = st at *
    obtain ⟨⟨rows, marks⟩, done⟩ := st
    dsimp only at hrr hms KI0
    have dm := KI0.dm
    have R := KI0.R
    have U := KI0.U
    have lrr : rr.length = tb.length := by rw [Paired.len hrr, R.len]
    refine st_set F4 (x := (none : Option Int)) ev_non fun v5 G5 H5 F5 e5 d5 => ?_
    obtain rfl : v5 = V.non := d5
    refine st_for2 F5 (ea_cons (ev_var (x := (done : Int)) rfl rfl) (ea_cons (ev_leno rfl List.mem_cons_self) ea_nil)) (by omega) (by omega) (by omega) (by omega)
      (fun t σ H' => ∃ G' i va, Same G5 G' ∧ Fr G H G' ((lr, rr) :: (lm, ms) :: []) H' ∧ Den.D G' va (on (It t (fun t b => if ent rows (done + t) c ≠ 0 then some (done + t) else b) none)) ∧
        σ = [some u, some (.int (wn : Int)), some (.int (pn : Int)), i, some (.ref lm), some (.ref lr), some (.int (done : Int)), some (.int (c : Int)), some va, ro, j0, nu])
      (fun G6 H6 F6 e6 => ⟨G6, i0, .non, e6, F6, rfl, rfl⟩) ?_ ?_
    · rintro t σ H6 ht ⟨G6, i, va, e6, F6, dva, rfl⟩
      have ht' : done + t < tb.length := by omega
      obtain ⟨vi, hvi, dvi⟩ := own_at hrr (i := done + t) (by rw [R.len]; exact ht') []
      have wi := R.wid _ ht'
      refine st_if F6 (et_test (ev_neI (ev_ixI (k := c) (ev_ixo (k := done + t) rfl List.mem_cons_self (ev_var (x := (done : Int) + (t : Int)) rfl rfl) (by omega) hvi (Den.mono (e5.trans e6) dvi)) (ev_var (x := (c : Int)) rfl rfl) rfl (by omega)) ev_int)) (fun hb G7 H7 F7 e7 => ?_) (fun hb G7 H7 F7 e7 => ?_)
      · have hb : ent rows (done + t) c ≠ 0 := bnT hb
        refine st_set F7 (x := some ((done : Int) + (t : Int))) (ev_some (ev_var (x := (done : Int) + (t : Int)) rfl rfl)) fun v8 G8 H8 F8 e8 d8 => ⟨G8, _, v8, (e6.trans e7).trans e8, F8, ?_, rfl⟩
        show Den.D G8 v8 (on (if ent rows (done + t) c ≠ 0 then some (done + t) else _))
        rw [if_pos hb]
        show v8 = V.int ((done + t : Nat) : Int)
        rw [show v8 = V.int ((done : Int) + (t : Int)) from d8]; congr 1
      · have hb : ent rows (done + t) c = 0 := bnF hb
        refine nxt ⟨G7, _, va, e6.trans e7, F7, ?_, rfl⟩
        show Den.D G7 va (on (if ent rows (done + t) c ≠ 0 then some (done + t) else _))
        rw [if_neg (by simpa using hb)]; exact Den.mono e7 dva
    · rintro σ H6 ⟨G6, i, va, e6, F6, dva, rfl⟩
      have el : It ((rr.length : Int) - (done : Int)).toNat (fun t b => if ent rows (done + t) c ≠ 0 then some (done + t) else b) none = lastRow rows c done (rows.length - done) := by
        unfold lastRow; congr 1; rw [lrr, R.len]; omega
      rw [el] at dva
      unfold kerSt
      dsimp only
      have hlast := lastRow_ok rows c done (rows.length - done)
      have hrr6 := Paired.imp (fun _ _ z => Den.mono (e5.trans e6) z) hrr
      have hms6 := Paired.imp (fun _ _ z => Den.mono (e5.trans e6) z) hms
      refine st_if F6 (et_test (ev_notN (ev_var rfl dva) noI)) (fun hb G7 H7 F7 e7 => ?_) (fun hb G7 H7 F7 e7 => ?_)
      · cases hl : lastRow rows c done (rows.length - done) with
        | none => rw [hl] at hb; cases hb
        | some ii =>
          rw [hl] at dva
          obtain rfl : va = V.int (ii : Int) := dva
          obtain ⟨h1, h2, h3⟩ := hlast.1 ii hl
          have hi : ii < tb.length := by have := R.len; omega
          have hd : done < tb.length := by omega
          have hrr7 := Paired.imp (fun _ _ z => Den.mono e7 z) hrr6
          have hms7 := Paired.imp (fun _ _ z => Den.mono e7 z) hms6
          obtain ⟨va, hva, dva⟩ := own_at hrr7 (i := done) (by rw [R.len]; exact hd) []
          obtain ⟨vb, hvb, dvb⟩ := own_at hrr7 (i := ii) (by rw [R.len]; exact hi) []
          obtain ⟨ua, hua, dua⟩ := own_at hms7 (i := done) (by rw [U.len]; exact hd) []
          obtain ⟨ub, hub, dub⟩ := own_at hms7 (i := ii) (by rw [U.len]; exact hi) []
          refine st_swap2 F7 rfl rfl rfl hva hvb fun G8 H8 F8 e8 => ?_
          refine st_swap2 F8.swap rfl rfl rfl hua hub fun G9 H9 F9 e9 => ?_
          have e79 := e8.trans e9
          have R2 := R.swap hd hi
          have U2 := U.swap hd hi
          have prr : Paired (Den.D G9) ((rr.set done vb).set ii va) (Bd.swap rows done ii []) := Paired.set (Den.mono e79 dva) _ (Paired.set (Den.mono e79 dvb) _ (Paired.imp (fun _ _ z => Den.mono e79 z) hrr7))
          have pms : Paired (Den.D G9) ((ms.set done ub).set ii ua) (Bd.swap marks done ii []) := Paired.set (Den.mono e79 dua) _ (Paired.set (Den.mono e79 dub) _ (Paired.imp (fun _ _ z => Den.mono e79 z) hms7))
          have F9 := F9.swap
          have hne : lr ≠ lm := fun z => by have := F9.nd; simp [z] at this
          refine ⟨_, rfl, _, rfl, _, rfl, _, rfl, _, rfl, G9, lr, lm, _, _, Bd.swap rows done ii [], Bd.swap marks done ii [], done, c, pn, tb.length, wn, rfl, F9.o, hne, prr, pms, R2, U2, hd, hc, pp, by omega, m, by omega, fun G10 H10 rs' ms' F10 hr10 hm10 => ?_⟩
          have F10 := F9.call2 F10
          refine ⟨_, rfl, _, _, rfl, rfl, ?_⟩
          exact ⟨G10, rs', ms', _, _, _, _, _, _, F10, hr10, hm10, rfl⟩
      · cases hl : lastRow rows c done (rows.length - done) with
        | some ii => rw [hl] at hb; cases hb
        | none =>
          exact nxt ⟨G7, rr, ms, _, _, _, _, _, _, F7, Paired.imp (fun _ _ z => Den.mono e7 z) hrr6, Paired.imp (fun _ _ z => Den.mono e7 z) hms6, rfl⟩
  · rintro σ H4 ⟨G4, rr, ms, i0, col0, ar0, ro, j0, nu, F4, hrr, hms, rfl⟩
    have KI0 := kerN_ok PR (T := tb) (m := tb.length) (w := wn) rfl hwid wn
    have dm := KI0.dm
    have F4 := F4.drop
    rw [eN] at hrr hms ⊢
    refine st_ret F4 (EvL.ev (el_slo rfl List.mem_cons_self hms (eo_some (ev_var (x := ((kerN tb pn wn).2 : Int)) rfl rfl)) eo_none)) fun v G5 H5 s5 d5 => q v G5 H5 s5 ?_
    rw [cut_lo _ _ (by rw [KI0.U.len]; exact dm)] at d5
    exact d5
end
end Bw
set_option Elab.async false
set_option linter.all false
set_option maxRecDepth 100000
set_option maxHeartbeats 4000000
namespace Bw
open PySem L2 Bd
/-! ### the class -/
structure Oc (K : PySem.W.Frag) (mg : Str → Option Value) (C : Addr) : Prop where
  cl : Cls K C
  gC : mg "Order" = some (.ref C)
  n1 : NoAttr K C "letter_of"
  n2 : NoAttr K C "prime"
  n3 : NoAttr K C "told_basis"
  n4 : NoAttr K C "most"
  n5 : NoAttr K C "rows"
def Dm (P : Program) (w : World) (K : PySem.W.Frag) (mg : Str → Option Value) (base : Heap) (C : Addr) (m : Str) (k : Nat) (ps : List Str) (sp : Sp) : Prop :=
  ∃ f fd, FnOk P w K mg base CX0 k f fd ps sp ∧ Meth K C m f ∧ Binds K fd ps []
def Di (P : Program) (w : World) (K : PySem.W.Frag) (mg : Str → Option Value) (base : Heap) (C : Addr) (k : Nat) (ps : List Str) (sp : Sp) : Prop :=
  ∃ f fd, FnOk P w K mg base CX0 k f fd ps sp ∧ Mk K C f ∧ Binds K fd ps []
structure Ob (C : Addr) where
  o : Od
def fldsOf (v1 : V) (p : Int) (v3 : V) (most : Int) (v5 : V) : List (Str × V) := [("letter_of", v1), ("prime", .int p), ("told_basis", v3), ("most", .int most), ("rows", v5)]
instance dOb {C : Addr} : Den (Ob C) := ⟨fun H v x => ∃ a dx v1 v3 v5, v = .ref a ∧ H a = some (.ins C dx (fldsOf v1 x.o.p v3 x.o.most v5)) ∧ Den.D H v1 x.o.f ∧ Den.D H v3 x.o.b ∧ Den.D H v5 x.o.rows,
  fun e ⟨a, dx, v1, v3, v5, h1, h2, h3, h4, h5⟩ => ⟨a, dx, v1, v3, v5, h1, e _ _ h2, Den.mono e h3, Den.mono e h4, Den.mono e h5⟩⟩
section
variable {K : PySem.W.Frag} {σ : L2.St} {G : Hp} {L : Ls} {mg : Str → Option Value} {C : Addr}
theorem ev_f1 (OC : Oc K mg C) {te : TE} {x : Ob C} (h : Ev te σ G L x) : Ev (tFld K te "letter_of") σ G L x.o.f := fun G1 H1 e o Q q =>
  h G1 H1 e o _ fun v G2 H2 s2 ⟨a, dx, v1, v3, v5, h1, h2, h3, h4, h5⟩ => ⟨a, C, dx, _, v1, h1, s2.i _ _ h2, OC.cl, OC.n1, rfl, q _ G2 H2 s2 h3⟩
theorem ev_f2 (OC : Oc K mg C) {te : TE} {x : Ob C} (h : Ev te σ G L x) : Ev (tFld K te "prime") σ G L x.o.p := fun G1 H1 e o Q q =>
  h G1 H1 e o _ fun v G2 H2 s2 ⟨a, dx, v1, v3, v5, h1, h2, h3, h4, h5⟩ => ⟨a, C, dx, _, .int x.o.p, h1, s2.i _ _ h2, OC.cl, OC.n2, rfl, q _ G2 H2 s2 rfl⟩
theorem ev_f3 (OC : Oc K mg C) {te : TE} {x : Ob C} (h : Ev te σ G L x) : Ev (tFld K te "told_basis") σ G L x.o.b := fun G1 H1 e o Q q =>
  h G1 H1 e o _ fun v G2 H2 s2 ⟨a, dx, v1, v3, v5, h1, h2, h3, h4, h5⟩ => ⟨a, C, dx, _, v3, h1, s2.i _ _ h2, OC.cl, OC.n3, rfl, q _ G2 H2 s2 h4⟩
theorem ev_f4 (OC : Oc K mg C) {te : TE} {x : Ob C} (h : Ev te σ G L x) : Ev (tFld K te "most") σ G L x.o.most := fun G1 H1 e o Q q =>
  h G1 H1 e o _ fun v G2 H2 s2 ⟨a, dx, v1, v3, v5, h1, h2, h3, h4, h5⟩ => ⟨a, C, dx, _, .int x.o.most, h1, s2.i _ _ h2, OC.cl, OC.n4, rfl, q _ G2 H2 s2 rfl⟩
theorem ev_f5 (OC : Oc K mg C) {te : TE} {x : Ob C} (h : Ev te σ G L x) : Ev (tFld K te "rows") σ G L x.o.rows := fun G1 H1 e o Q q =>
  h G1 H1 e o _ fun v G2 H2 s2 ⟨a, dx, v1, v3, v5, h1, h2, h3, h4, h5⟩ => ⟨a, C, dx, _, v5, h1, s2.i _ _ h2, OC.cl, OC.n5, rfl, q _ G2 H2 s2 h5⟩
/-- the name of no field -/
def NoFld (m : Str) : Prop := ∀ v1 p v3 k v5, (fldsOf v1 p v3 k v5).lookup m = none
theorem ev_meth {X Y : Type} [DenA X] [Den Y] {Pre : Ob C × X → Prop} {F : Ob C × X → Y} {E : XK} {m : Str} {te : TE} {ta : TA} {ob : Ob C} {x : X} (hm : NoFld m) (h : Ev te σ G L ob) (ha : EvA ta σ G L x) (hp : Pre (ob, x)) :
    Ev (tMeth C m (SpF Pre F) [] E te ta) σ G L (F (ob, x)) := fun G1 H1 e o Q q =>
  h G1 H1 e o _ fun v G2 H2 s2 d2 => by
    obtain ⟨a, dx, v1, v3, v5, h1, h2, h3, h4, h5⟩ := id d2
    refine ⟨a, dx, _, h1, s2.i _ _ h2, hm _ _ _ _ _, ha G2 H2 (e.trans s2.g) (o.step s2) _ fun vs G3 H3 s3 d3 => ?_⟩
    exact ⟨G3, (ob, x), s3.i, ⟨v, vs, by rw [List.append_nil], Den.mono s3.g d2, d3⟩, hp, fun u G4 H4 s4 d4 => q u G4 H4 ((s2.trans s3).trans s4) d4⟩
/-! making one -/
def but1 (H : Hp) (a : Addr) : Hp := fun c => if c = a then none else H c
theorem but1_ne {H : Hp} {a c : Addr} {o : HO} (h : but1 H a c = some o) : c ≠ a ∧ H c = some o := by
  unfold but1 at h
  by_cases q : c = a
  · rw [if_pos q] at h; cases h
  · rw [if_neg q] at h; exact ⟨q, h⟩
theorem but1_of {H : Hp} {a c : Addr} {o : HO} (h : c ≠ a) (e : H c = some o) : but1 H a c = some o := by
  unfold but1; rw [if_neg h]; exact e
structure InPre (o : Od) : Prop where
  f0 : 2 ≤ o.f.length
  f1 : o.f.length ≤ 20
  bl : o.b.length = o.f.length - 1
  p0 : 0 < o.p
  p1 : o.p ≤ 47
  ks : ∀ gk ∈ o.b, 0 ≤ o.most - gk.2 ∧ o.most - gk.2 ≤ 500 ∧ Bn 9000 gk.1
def spInit (C : Addr) : Sp := fun vs H Q E => ∃ (G : Hp) (x dx : Addr) (vf vb : V) (o : Od), vs = [.ref x, vf, .int o.p, vb] ∧ Same G H ∧ G x = none ∧ H x = some (.ins C dx []) ∧ Den.D G vf o.f ∧ Den.D G vb o.b ∧ InPre o ∧
  ∀ v1 v3 v5 G2 H2, Step G (but1 H x) G2 H2 → G2 x = none → H2 x = some (.ins C dx (fldsOf v1 o.p v3 o.most v5)) → Den.D G2 v1 o.f → Den.D G2 v3 o.b → Den.D G2 v5 o.rows → Q .non H2
theorem ev_make {E : XK} {ta : TA} {o : Od} (ha : EvA ta σ G L (o.f, o.p, o.b, ())) (hp : InPre o) : Ev (tMake C (spInit C) [] E ta) σ G L (⟨o⟩ : Ob C) := fun G1 H1 e ok Q q =>
  ha G1 H1 e ok _ fun vs G2 H2 s2 d2 x dx hx hdx hne => by
    obtain ⟨vf, _, rfl, d1, _, _, rfl, dp, vb, _, rfl, db, rfl⟩ := d2
    obtain rfl : _ = V.int o.p := dp
    have e1 : Same H2 (upd (upd H2 dx (.own x)) x (.ins C dx [])) := (same_new hdx).trans (same_new (by rw [upd_ne (Ne.symm hne)]; exact hx))
    refine ⟨G2, x, dx, vf, vb, o, rfl, s2.i.trans e1, s2.i.free hx, upd_same, d1, db, hp, fun v1 v3 v5 G3 H3 s3 gx hx3 d1' d3' d5 => ⟨rfl, ?_⟩⟩
    have e3 : Same H2 H3 := fun c u z => s3.h c u (but1_of (fun w => by rw [w, hx] at z; cases z) (e1 c u z))
    have eG : Same G3 (upd G3 x (.ins C dx (fldsOf v1 o.p v3 o.most v5))) := same_new gx
    refine q (.ref x) (upd G3 x (.ins C dx (fldsOf v1 o.p v3 o.most v5))) H3 ⟨(s2.g.trans s3.g).trans eG, fun c u z => ?_, s2.h.trans e3, fun c z1 z2 => ?_⟩ ⟨x, dx, v1, v3, v5, rfl, upd_same, Den.mono eG d1', Den.mono eG d3', Den.mono eG d5⟩
    · by_cases w : c = x
      · subst w; rw [upd_same] at z; rw [← z]; exact hx3
      · rw [upd_ne w] at z; exact s3.i c u z
    · have hc : H2 c ≠ none := not_none s2.h z2
      have w : c ≠ x := fun w => hc (by rw [w]; exact hx)
      rw [upd_ne w]
      refine s3.d c (s2.d c z1 z2) ?_
      have := not_none e1 hc
      unfold but1; rw [if_neg w]; exact this
/-- how __init__ stands: the instance x, not yet frozen -/
structure Fx (C : Addr) (G0 H0 : Hp) (x dx : Addr) (G : Hp) (fs : List (Str × V)) (H : Hp) : Prop where
  s : Step G0 (but1 H0 x) G H
  g : G x = none
  h : H x = some (.ins C dx fs)
theorem Fx.step {C : Addr} {G0 H0 G H G2 H2 : Hp} {x dx : Addr} {fs : List (Str × V)} (F : Fx C G0 H0 x dx G fs H) (s : Step G H G2 H2) : Fx C G0 H0 x dx G2 fs H2 :=
  ⟨F.s.trans s, s.d x F.g (by rw [F.h]; simp), s.h _ _ F.h⟩
theorem Fx.upd {C : Addr} {G0 H0 G H : Hp} {x dx : Addr} {fs fs' : List (Str × V)} (F : Fx C G0 H0 x dx G fs H) : Fx C G0 H0 x dx G fs' (L2.upd H x (.ins C dx fs')) :=
  ⟨⟨F.s.g, fun c u z => by
      have : c ≠ x := fun w => by rw [w, F.g] at z; cases z
      rw [upd_ne this]; exact F.s.i c u z, fun c u z => by
      rw [upd_ne (but1_ne z).1]; exact F.s.h c u z, F.s.d⟩, F.g, upd_same⟩
theorem st_fld {α : Type} [Den α] {G0 H0 H : Hp} {D' : Ends} {x dx : Addr} {fs : List (Str × V)} {te : TE} {y : α} {f : Str} {i : Nat} (F : Fx C G0 H0 x dx G fs H) (hs : σ[i]? = some (some (.ref x))) (h : Ev te σ G [] y) (cl : Cls K C) (na : NoAttr K C f) (hl : fs.length < 1000)
    (q : ∀ v G2 H2, Fx C G0 H0 x dx G2 (putF f v fs) H2 → Same G G2 → Den.D G2 v y → D'.nx σ H2) : sFld K (tVar i) te f D' σ H :=
  h G H (Same.refl _) ⟨F.s.i, fun _ hp => (nomatch hp)⟩ _ fun v G2 H2 s2 d2 => by
    have F2 := F.step s2
    exact ⟨_, hs, x, C, dx, fs, rfl, F2.h, cl, na, hl, q v G2 _ F2.upd s2.g d2⟩
end
theorem nf_row_of : NoFld "row_of" := fun _ _ _ _ _ => rfl
theorem nf_product : NoFld "product" := fun _ _ _ _ _ => rfl
theorem nf_rest_product : NoFld "rest_product" := fun _ _ _ _ _ => rfl
theorem nf_raised : NoFld "raised" := fun _ _ _ _ _ => rfl
theorem nf_units : NoFld "units" := fun _ _ _ _ _ => rfl
theorem nf_radical : NoFld "radical" := fun _ _ _ _ _ => rfl
theorem nf_basis_of : NoFld "basis_of" := fun _ _ _ _ _ => rfl
theorem nf_by_ideal : NoFld "by_ideal" := fun _ _ _ _ _ => rfl
theorem nf_greater : NoFld "greater" := fun _ _ _ _ _ => rfl
section
variable {P : Program} {w : World} {K : PySem.W.Frag} {mg : Str → Option Value} {base : Heap} {C : Addr}
/-! ### Order.__init__ -/
abbrev s_m_init : Stmt := inClass (top 46) 0
theorem sc_m_init : FnScope ["self", "f", "p", "basis"] ["self", "f", "p", "basis"] (defScope s_m_init) := ⟨rfl, rfl, rfl, by decide +kernel, rfl, by decide +kernel, by decide +kernel⟩
  -- slots 0:self 1:f 2:p 3:basis
theorem ok_m_init (T : Tx mg) (OC : Oc K mg C) (D_over_all : Df P w K mg base "over_all" 2 ["basis", "n", "p", "most"] sp_over_all) (D_greatest_power : Df P w K mg base "greatest_power" 1 ["basis"] sp_greatest_power) {f : Addr} {fd : FuncData} (F : Fun K "__init__" "Order.__init__" s_m_init f fd) : FnOk P w K mg base CX0 3 f fd ["self", "f", "p", "basis"] (spInit C) := by
  refine F.ok sc_m_init (fun vs H Q E h => ?_) (fun cdv A outer s H vs Q E hr h => ?_)
  · obtain ⟨_, _, _, _, _, _, rfl, _⟩ := h; rfl
  obtain ⟨G, x, dx, vf, vb, o, rfl, e, gx, hx, df, db, hp, q⟩ := h
  obtain ⟨f_over_all, fd_over_all, g_over_all, m_over_all, k_over_all, b_over_all⟩ := D_over_all
  have hr_over_all : Room 2 _ := hr.mono (by decide)
  obtain ⟨f_greatest_power, fd_greatest_power, g_greatest_power, m_greatest_power, k_greatest_power, b_greatest_power⟩ := D_greatest_power
  have hr_greatest_power : Room 1 _ := hr.mono (by decide)
  refine ⟨_, (pss_cons (ps_fld (pv 0) (pv 1) rfl)
      (pss_cons (ps_fld (pv 0) (pv 2) rfl)
      (pss_cons (ps_fld (pv 0) (pv 3) rfl)
      (pss_cons (ps_fld (pv 0) (pe_call g_greatest_power hr_greatest_power rfl m_greatest_power k_greatest_power b_greatest_power .nil pass0 (pa_cons (pv 3) pa_nil)) rfl)
      (pss_one (ps_fld (pv 0) (pe_call g_over_all hr_over_all rfl m_over_all k_over_all b_over_all .nil pass0 (pa_cons (pv 3) (pa_cons (pe_op op_sub (pe_callB (lenK (K := K)) (by rfl) T.b_len PySem.boot_len (pa_cons (pv 1) pa_nil)) pe_int) (pa_cons (pv 2) (pa_cons (pe_fldK (K := K) (pv 0) rfl) pa_nil))))) rfl)))))), ?_⟩
  have F0 : Fx C G H x dx G [] H := ⟨⟨Same.refl _, e, fun c u z => (but1_ne z).2, fun _ h _ => h⟩, gx, hx⟩
  refine st_fld F0 rfl (ev_var (x := o.f) rfl df) OC.cl OC.n1 (by decide) fun v G1 H1 F1 e1 d1 => ?_
  refine st_fld F1 rfl (ev_var (x := o.p) rfl rfl) OC.cl OC.n2 (by show 1 < 1000; decide) fun v2 G2 H2 F2 e2 d2 => ?_
  obtain rfl : v2 = V.int o.p := d2
  refine st_fld F2 rfl (ev_var (x := o.b) rfl (Den.mono (e1.trans e2) db)) OC.cl OC.n3 (by show 2 < 1000; decide) fun v3 G3 H3 F3 e3 d3 => ?_
  refine st_fld F3 rfl (ev_call (Pre := GpPre) (F := fun x : B × Unit => Bd.top x.1) (x := (o.b, ())) (ea_cons (ev_var rfl (Den.mono ((e1.trans e2).trans e3) db)) ea_nil) ⟨by dsimp only; rw [hp.bl]; have := hp.f0; omega, by dsimp only; rw [hp.bl]; have := hp.f1; omega⟩) OC.cl OC.n4 (by show 3 < 1000; decide) fun v4 G4 H4 F4 e4 d4 => ?_
  obtain rfl : v4 = V.int o.most := d4
  have e04 := ((e1.trans e2).trans e3).trans e4
  refine ⟨_, rfl, ?_⟩
  refine (ev_I0 (ev_len (ev_var rfl (Den.mono e04 df))) (ev_int (i := 1)) : Ev _ _ G4 [] ((o.f.length : Int) - 1)) G4 H4 (Same.refl _) ⟨F4.s.i, fun _ hp => (nomatch hp)⟩ _ fun v5 G5 H5 s5 d5 => ?_
  obtain rfl : v5 = V.int ((o.f.length : Int) - 1) := d5
  have F5 := F4.step s5
  refine ⟨_, rfl, _, rfl, x, C, dx, _, .int o.most, rfl, F5.h, OC.cl, OC.n4, rfl, ?_⟩
  refine ⟨G5, (o.b, (o.f.length : Int) - 1, o.p, o.most, ()), s5.i, ⟨vb, _, rfl, Den.mono (e04.trans s5.g) db, _, _, rfl, rfl, _, _, rfl, rfl, _, _, rfl, rfl, rfl⟩, ⟨?_, ?_, ?_, hp.p0, hp.p1, hp.ks⟩, fun v6 G6 H6 s6 d6 => ?_⟩
  · dsimp only; rw [hp.bl]; have := hp.f1; omega
  · dsimp only; have := hp.f0; omega
  · dsimp only; have := hp.f1; omega
  have F6 := F5.step s6
  refine ⟨_, rfl, x, C, dx, _, rfl, F6.h, OC.cl, OC.n5, by show 4 < 1000; decide, ?_⟩
  have F7 := F6.upd (fs' := fldsOf v o.p v3 o.most v6)
  have e6 := ((e2.trans e3).trans e4).trans (s5.g.trans s6.g)
  refine q v v3 v6 G6 _ F7.s F7.g F7.h (Den.mono e6 d1) (Den.mono (e4.trans (s5.g.trans s6.g)) d3) ?_
  have en : ((o.f.length : Int) - 1).toNat = o.n := by unfold Od.n; omega
  have : o.rows = overAll o.b ((o.f.length : Int) - 1).toNat o.p o.most := by unfold Od.rows; rw [en]
  rw [this]; exact d6
end
end Bw
set_option Elab.async false
set_option linter.all false
set_option maxRecDepth 100000
set_option maxHeartbeats 4000000
namespace Bw
open PySem L2 Bd
section
variable {K : PySem.W.Frag} {σ : L2.St} {G0 H0 G H : Hp} {L : Ls} {D' : Ends} {tb : TS}
/-- for a, b in zip(xs, zs), both of one length -/
theorem st_forZ {α β : Type} [Den α] [Den β] {ta : TA} {i1 i2 : Nat} {xs : List α} {zs : List β} (F : Fr G0 H0 G L H) (h : EvA ta σ G L (xs, zs, ())) (hl : zs.length = xs.length) (Pv : Hp → Nat → Hp → L2.St → Hp → Prop)
    (hP : ∀ Gs i G' σ' H', Pv Gs i G' σ' H' → Same Gs G' ∧ Same G' H')
    (h0 : ∀ G2 H2, Fr G0 H0 G2 L H2 → Same G G2 → Pv G2 0 G2 σ H2)
    (hs : ∀ Gs (i : Nat) x z v u G' σ H T, Same G Gs → xs[i]? = some x → zs[i]? = some z → Den.D Gs v x → Den.D Gs u z → Pv Gs i G' σ H → H T = none → tb { D' with nx := fun σ H => ∃ G', Pv Gs (i + 1) G' σ H, ct := fun σ H => ∃ G', Pv Gs (i + 1) G' σ H, bk := D'.nx } ((σ.set i1 (some v)).set i2 (some u)) (upd H T (.tup [v, u])))
    (hd : ∀ Gs G' σ H, Same G Gs → Pv Gs xs.length G' σ H → D'.nx σ H) : tFor (iZip K ta) (gTup K 2 (gCons (gName i1) (gCons (gName i2) gNil))) tb D' σ H :=
  h G H (Same.refl _) F.o _ fun vs G2 H2 s2 d2 => by
    obtain ⟨_, _, rfl, ⟨a, vs, rfl, h1, h2⟩, _, _, rfl, ⟨b, ws, rfl, h3, h4⟩, rfl⟩ := d2
    have l1 := Paired.len h2
    have l2 := Paired.len h4
    dsimp only at l1 l2
    have F2 := F.step s2
    refine ⟨a, b, vs, ws, rfl, SqL.of (s2.i _ _ h1), SqL.of (s2.i _ _ h3), for_it (walk_zip (K := K) (a := a) (b := b) (xs := vs) (ys := ws) (n := xs.length) (by omega)) (fun i σ H => ∃ G', Pv G2 i G' σ H) ⟨G2, h0 G2 H2 F2 s2.g⟩
      (fun i σ' H' _ ⟨G', p⟩ => ⟨SqL.of ((hP _ _ _ _ _ p).2 _ _ ((hP _ _ _ _ _ p).1 _ _ h1)), SqL.of ((hP _ _ _ _ _ p).2 _ _ ((hP _ _ _ _ _ p).1 _ _ h3))⟩) (fun i x σ' H' H'' hi ⟨G', p⟩ y => ?_) (fun σ' H' ⟨G', p⟩ => hd G2 G' σ' H' s2.g p)⟩
    obtain ⟨T, v, u, rfl, hT, rfl, hv, hu⟩ := y
    obtain ⟨x', hx', dx⟩ := Paired.at' h2 hv
    obtain ⟨z', hz', dz⟩ := Paired.at' h4 hu
    exact ⟨T, [v, u], rfl, SqT.of upd_same, rfl, v, [u], rfl, u, [], rfl, rfl, hs G2 i x' z' v u G' σ' H' T s2.g hx' hz' dx dz p hT⟩
end
/-! ### what is known of an order -/
structure OPre (o : Od) : Prop where
  i : InPre o
  fb : Bn 100 o.f
  pr : ∃ q : Nat, Pr q ∧ o.p = (q : Int)
  m0 : 0 ≤ o.most
  m1 : o.most ≤ 240
  k0 : ∀ gk ∈ o.b, 0 ≤ gk.2
  clo : ∀ x y : L, x.length = o.n → y.length = o.n → ∃ z, o.prodO x y = some z ∧ z.length = o.n
theorem OPre.nb {o : Od} (h : OPre o) : o.b.length = o.n := h.i.bl
theorem OPre.n0 {o : Od} (h : OPre o) : 1 ≤ o.n := by have := h.i.f0; unfold Od.n; omega
theorem OPre.n1 {o : Od} (h : OPre o) : o.n ≤ 19 := by have := h.i.f1; unfold Od.n; omega
theorem OPre.rl {o : Od} (h : OPre o) : o.rows.length = o.n := by unfold Od.rows overAll; rw [List.length_map]; exact h.nb
theorem bn_pw {p k : Int} (h : p.natAbs ≤ 47) (h2 : k ≤ 500) : (pw p k).natAbs ≤ 2 ^ 3000 := pw_sz h h2
theorem OPre.rw {o : Od} (h : OPre o) : ∀ r ∈ o.rows, r.length = o.n ∧ Bn 12000 r := by
  intro r hr
  unfold Od.rows overAll at hr
  obtain ⟨gk, hgk, rfl⟩ := List.mem_map.mp hr
  obtain ⟨k1, k2, k3⟩ := h.i.ks _ hgk
  refine ⟨len_tab _ _, fun k => ?_⟩
  rw [at_tab]
  split
  · exact natAbs_mul_le (a := 3000) (b := 9000) (pw_sz (by have := h.i.p0; have := h.i.p1; omega) k2) (k3 k)
  · exact Nat.zero_le _
theorem at_rowAdd (x : Int) (row acc : L) (h : acc.length = row.length) (j : Nat) : at_ (rowAdd x row acc) j = at_ acc j + x * at_ row j := by
  unfold rowAdd; rw [at_zip _ (by simp) _ _ h]
theorem len_rowAdd (x : Int) (row acc : L) (h : acc.length = row.length) : (rowAdd x row acc).length = acc.length := by
  unfold rowAdd; simp; omega
def rowOfN (rows : LL) (xs : L) (t : Nat) : L := It t (fun t acc => rowAdd (at_ xs t) (rows.getD t []) acc) (zeros rows.length)
theorem rowOfN_ok {rows : LL} {xs : L} {N M : Nat} (hr : ∀ r ∈ rows, r.length = rows.length ∧ Bn M r) (hx : Bn N xs) (t : Nat) (ht : t ≤ rows.length) : (rowOfN rows xs t).length = rows.length ∧ Bn (N + M + t) (rowOfN rows xs t) := by
  induction t with
  | zero => exact ⟨len_zeros _, fun k => by show (at_ (zeros _) k).natAbs ≤ _; rw [at_zeros]; exact Nat.zero_le _⟩
  | succ t ih =>
    obtain ⟨i1, i2⟩ := ih (by omega)
    have hm : rows.getD t [] ∈ rows := List.mem_iff_getElem?.mpr ⟨t, by rw [List.getD_eq_getElem?_getD, List.getElem?_eq_getElem (by omega)]; rfl⟩
    obtain ⟨r1, r2⟩ := hr _ hm
    have e : rowOfN rows xs (t + 1) = rowAdd (at_ xs t) (rows.getD t []) (rowOfN rows xs t) := rfl
    rw [e]
    refine ⟨by rw [len_rowAdd _ _ _ (by omega)]; exact i1, fun k => ?_⟩
    rw [at_rowAdd _ _ _ (by omega)]
    refine Bn.add (N := N + M + t) (i2 k) (Nat.le_trans (Bn.mulI (hx t) (r2 k)) (Nat.pow_le_pow_right (by decide) (by omega)))
theorem rowOf_ok {rows : LL} {xs : L} {N M : Nat} (hr : ∀ r ∈ rows, r.length = rows.length ∧ Bn M r) (hx : Bn N xs) : (rowOf rows xs).length = rows.length ∧ Bn (N + M + rows.length) (rowOf rows xs) := by
  obtain ⟨h1, h2⟩ := rowOfN_ok hr hx (min xs.length rows.length) (by omega)
  exact ⟨h1, h2.mono (by omega)⟩
theorem prodRow_ok {o : Od} (h : OPre o) {x y : L} (hx : Bn 60 x) (hy : Bn 60 y) : (o.prodRow x y).length = o.n ∧ Bn 400000 (o.prodRow x y) := by
  refine ⟨len_prodOf _ _ _, fun k => ?_⟩
  have hr : ∀ r ∈ o.rows, r.length = o.rows.length ∧ Bn 12000 r := fun r hr => by rw [h.rl]; exact h.rw r hr
  obtain ⟨l1, b1⟩ := rowOf_ok hr hx
  obtain ⟨l2, b2⟩ := rowOf_ok hr hy
  have n1 := h.n1
  have rl := h.rl
  have f0 := h.i.f0
  unfold Od.prodRow prodOf
  rw [at_tab]
  split
  · have hm := mul_bn b1.trim b2.trim (by have := trim_le (rowOf o.rows x); omega)
    have ml := mul_len (trim (rowOf o.rows x)) (trim (rowOf o.rows y))
    have t1 := trim_le (rowOf o.rows x)
    have t2 := trim_le (rowOf o.rows y)
    have := dv_bn hm h.fb (by omega)
    refine (this.mono ?_) k
    have e1 : ((mul (trim (rowOf o.rows x)) (trim (rowOf o.rows y))).length + 1 - o.f.length) * (100 + 1) ≤ 60 * 101 := Nat.mul_le_mul_right _ (by omega)
    omega
  · exact Nat.zero_le _
theorem OPre.prod {o : Od} (h : OPre o) {x y : L} (hx : x.length = o.n) (hy : y.length = o.n) : o.prodO x y = some (o.prod x y) ∧ (o.prod x y).length = o.n := by
  obtain ⟨z, hz, lz⟩ := h.clo x y hx hy
  have : o.prod x y = z := by unfold Od.prod; rw [hz]; rfl
  rw [this]; exact ⟨hz, lz⟩
theorem OPre.pp {o : Od} (h : OPre o) : 2 ≤ o.p ∧ o.p ≤ 47 := by
  obtain ⟨q, hq, e⟩ := h.pr
  have := hq.two
  have := h.i.p1
  omega
theorem OPre.rprod {o : Od} (h : OPre o) {x y : L} (hx : x.length = o.n) (hy : y.length = o.n) : (o.rprod x y).length = o.n ∧ Bn 60 (o.rprod x y) := by
  refine ⟨by unfold Od.rprod; rw [List.length_map]; exact (h.prod hx hy).2, fun k => ?_⟩
  unfold Od.rprod
  rw [at_map _ _ (by simp)]
  obtain ⟨p2, p47⟩ := h.pp
  exact mod_sz (by omega) (by omega)
section
variable {P : Program} {w : World} {K : PySem.W.Frag} {mg : Str → Option Value} {base : Heap} {C : Addr}
/-! ### Order.row_of -/
abbrev s_m_row_of : Stmt := inClass (top 46) 1
theorem sc_m_row_of : FnScope ["self", "numbers", "found", "number", "row", "one", "other"] ["self", "numbers"] (defScope s_m_row_of) := ⟨rfl, rfl, rfl, by decide +kernel, rfl, by decide +kernel, by decide +kernel⟩
  -- slots 0:self 1:numbers 2:found 3:number 4:row 5:one 6:other
def RoPre {C : Addr} (x : Ob C × L × Unit) : Prop := OPre x.1.o ∧ x.2.1.length = x.1.o.n ∧ Bn 60 x.2.1
abbrev sp_m_row_of (C : Addr) : Sp := SpF RoPre fun x : Ob C × L × Unit => rowOf x.1.o.rows x.2.1
theorem ok_m_row_of (T : Tx mg) (OC : Oc K mg C)  {f : Addr} {fd : FuncData} (F : Fun K "row_of" "Order.row_of" s_m_row_of f fd) : FnOk P w K mg base CX0 1 f fd ["self", "numbers"] (sp_m_row_of C) := by
  refine F.ok sc_m_row_of (fun vs H Q E h => SpF.len h) (fun cdv A outer s H vs Q E hr h => ?_)
  obtain ⟨G, ⟨ob, xs, _⟩, e, ⟨u, _, rfl, hob, v, _, rfl, hx, rfl⟩, ⟨hO, lx, bx⟩, q⟩ := h
  dsimp only at hob hx q lx bx hO
  
  refine ⟨_, (pss_cons (ps_set (i := 2) sc_m_row_of.nd rfl (Or.inl rfl) (pe_op op_rep (pe_lst (pa_cons pe_int pa_nil)) (pe_callB (lenK (K := K)) (by rfl) T.b_len PySem.boot_len (pa_cons (pe_fldK (K := K) (pv 0) rfl) pa_nil))))
      (pss_cons (ps_for PassesOwn.never rfl (pi_zipK (K := K) (by rfl) T.b_zip (pa_cons (pv 1) (pa_cons (pe_fldK (K := K) (pv 0) rfl) pa_nil))) (pg_tupK (K := K) (n := 2) rfl (pgs_cons (pg_name (i := 3) sc_m_row_of.nd rfl (Or.inr rfl)) (pgs_cons (pg_name (i := 4) sc_m_row_of.nd rfl (Or.inl rfl)) pgs_nil))) (pss_one (ps_setLc (i := 2) (own := [("one", 5), ("other", 6)]) (tt := tYes) rfl sc_m_row_of.nd rfl rfl (sw_true rfl rfl rfl (by decide +kernel)) (pi_zipK (K := K) (by rfl) T.b_zip (pa_cons (pv 2) (pa_cons (pv 4) pa_nil))) (blkOk_by (N := ["self", "numbers", "found", "number", "row", "one", "other"]) (sc := defScope s_m_row_of) (by decide +kernel)) (fun _ _ _ _ _ => (pg_tupK (K := K) (n := 2) rfl (pgs_cons (pg_name (i := 5) sc_m_row_of.nd rfl (Or.inl rfl)) (pgs_cons (pg_name (i := 6) sc_m_row_of.nd rfl (Or.inl rfl)) pgs_nil)))) (fun _ _ _ _ _ => pts_nil) (fun _ _ _ _ _ => (pe_op op_add (pv 5) (pe_op op_mulW (pv 3) (pv 6)))))))
      (pss_one (ps_ret (pv 2))))), ?_⟩
  have F0 := Fr.start e
  have rl := hO.rl
  have n1 := hO.n1
  have hr : ∀ r ∈ ob.o.rows, r.length = ob.o.rows.length ∧ Bn 12000 r := fun r hr => by rw [hO.rl]; exact hO.rw r hr
  refine st_set F0 ((EvL.ev (el_rep (el_one (ev_int (i := 0))) (ev_len (ev_f5 OC (ev_var rfl hob))) (by omega) (by omega))).cast (y := zeros ob.o.rows.length) (by rw [zeros_eq]; congr 1)) fun vz G1 H1 F1 e1 d1 => ?_
  refine st_forZ F1 (ea_cons (ev_var rfl (Den.mono e1 hx)) (ea_cons (ev_f5 OC (ev_var rfl (Den.mono e1 hob))) ea_nil)) (by rw [rl, lx]) (fun Gs i G' σ H' => Same Gs G' ∧ ∃ vz n r a b, Fr G H G' [] H' ∧ Den.D G' vz (rowOfN ob.o.rows xs i) ∧ σ = [some u, some v, some vz, n, r, a, b])
    (fun Gs i G' σ H' ⟨s1, vz, n, r, a, b, F', _⟩ => ⟨s1, F'.o.i⟩) (fun G2 H2 F2 e2 => ⟨Same.refl _, vz, none, none, none, none, F2, Den.mono e2 d1, rfl⟩) ?_ ?_
  · rintro Gs i x r vx vr G' σ H' TT eG hi hir dvx dvr ⟨s1, vz, n, r0, a, b, F', dz, rfl⟩ hT
    obtain rfl : vx = V.int x := dvx
    have s := Step.new (o := .tup [V.int x, vr]) F'.o.i hT
    have F2 := F'.step s
    have hil : i < xs.length := (List.getElem?_eq_some_iff.mp hi).1
    have ei : at_ xs i = x := at_of hi
    have er : ob.o.rows.getD i [] = r := by rw [List.getD_eq_getElem?_getD, hir]; rfl
    have hrm : r ∈ ob.o.rows := List.mem_iff_getElem?.mpr ⟨i, hir⟩
    obtain ⟨r1, r2⟩ := hr r hrm
    obtain ⟨z1, z2⟩ := rowOfN_ok hr bx i (by omega)
    have e' : rowOfN ob.o.rows xs (i + 1) = rowAdd x r (rowOfN ob.o.rows xs i) := by
      show rowAdd (at_ xs i) (ob.o.rows.getD i []) _ = _
      rw [ei, er]; rfl
    have la := len_rowAdd x r (rowOfN ob.o.rows xs i) (by omega)
    refine st_set F2 (EvL.ev (el_lcZ (xs := rowOfN ob.o.rows xs i) (zs := r) (ys := rowAdd x r (rowOfN ob.o.rows xs i)) (ea_cons (ev_var rfl (Den.mono s.g dz)) (ea_cons (ev_var rfl (Den.mono (s1.trans s.g) dvr)) ea_nil)) (by omega) (by omega) (by omega) (fun _ _ => rfl) fun j a1 b1 y w1 w2 G'' e'' ha hb hy da db => ?_)) fun v3 G3 H3 F3 e3 d3 => ?_
    · obtain rfl : w1 = V.int a1 := da
      obtain rfl : w2 = V.int b1 := db
      have : y = a1 + x * b1 := by
        unfold rowAdd at hy
        rw [List.getElem?_zipWith, ha, hb] at hy
        exact (Option.some.inj hy).symm
      rw [this]
      have bx' : x.natAbs ≤ 2 ^ 60 := by rw [← ei]; exact bx i
      have bb : b1.natAbs ≤ 2 ^ 12000 := by rw [← at_of hb]; exact r2 j
      exact ev_I0 (ev_var (x := a1) rfl rfl) (ev_I (ev_var (x := x) rfl rfl) (ev_var (x := b1) rfl rfl) (cmul bx' bb (by decide)))
    · exact ⟨G3, (s1.trans s.g).trans e3, v3, _, _, _, _, F3, by rw [e']; exact d3, rfl⟩
  · rintro Gs G' σ H' eG ⟨s1, vz, n, r, a, b, F', dz, rfl⟩
    refine st_ret F' (ev_var rfl dz) fun v G3 H3 s3 d3 => q v G3 H3 s3 ?_
    have : rowOf ob.o.rows xs = rowOfN ob.o.rows xs xs.length := by unfold rowOf rowOfN; congr 1; omega
    rw [this]; exact d3
/-! ### Order.product -/
abbrev s_m_product : Stmt := inClass (top 46) 2
theorem sc_m_product : FnScope ["self", "one", "other", "row"] ["self", "one", "other"] (defScope s_m_product) := ⟨rfl, rfl, rfl, by decide +kernel, rfl, by decide +kernel, by decide +kernel⟩
  -- slots 0:self 1:one 2:other 3:row
def PrPre {C : Addr} (x : Ob C × L × L × Unit) : Prop := OPre x.1.o ∧ x.2.1.length = x.1.o.n ∧ x.2.2.1.length = x.1.o.n ∧ Bn 60 x.2.1 ∧ Bn 60 x.2.2.1
abbrev sp_m_product (C : Addr) : Sp := SpF PrPre fun x : Ob C × L × L × Unit => x.1.o.prod x.2.1 x.2.2.1
theorem ok_m_product (T : Tx mg) (OC : Oc K mg C) (D_coordinates : Df P w K mg base "coordinates" 2 ["basis", "row", "p", "most"] sp_coordinates) (D_product_of : Df P w K mg base "product_of" 3 ["f", "one", "other"] sp_product_of) (D_m_row_of : Dm P w K mg base C "row_of" 1 ["self", "numbers"] (sp_m_row_of C)) {f : Addr} {fd : FuncData} (F : Fun K "product" "Order.product" s_m_product f fd) : FnOk P w K mg base CX0 4 f fd ["self", "one", "other"] (sp_m_product C) := by
  refine F.ok sc_m_product (fun vs H Q E h => SpF.len h) (fun cdv A outer s H vs Q E hr h => ?_)
  obtain ⟨G, ⟨ob, x, y, _⟩, e, ⟨u, _, rfl, hob, v, _, rfl, hx, v2, _, rfl, hy, rfl⟩, ⟨hO, lx, ly, bx, by_⟩, q⟩ := h
  dsimp only at hob hx hy q lx ly bx by_ hO
  obtain ⟨f_coordinates, fd_coordinates, g_coordinates, m_coordinates, k_coordinates, b_coordinates⟩ := D_coordinates
  have hr_coordinates : Room 2 _ := hr.mono (by decide)
  obtain ⟨f_product_of, fd_product_of, g_product_of, m_product_of, k_product_of, b_product_of⟩ := D_product_of
  have hr_product_of : Room 3 _ := hr.mono (by decide)
  obtain ⟨f_m_row_of, fd_m_row_of, g_m_row_of, me_m_row_of, b_m_row_of⟩ := D_m_row_of
  have hr_m_row_of : Room 1 _ := hr.mono (by decide)
  refine ⟨_, (pss_cons (ps_set (i := 3) sc_m_product.nd rfl (Or.inl rfl) (pe_call g_product_of hr_product_of rfl m_product_of k_product_of b_product_of .nil pass0 (pa_cons (pe_fldK (K := K) (pv 0) rfl) (pa_cons (pe_meth (pv 0) OC.cl me_m_row_of g_m_row_of hr_m_row_of b_m_row_of .nil pass0 (pa_cons (pv 1) pa_nil)) (pa_cons (pe_meth (pv 0) OC.cl me_m_row_of g_m_row_of hr_m_row_of b_m_row_of .nil pass0 (pa_cons (pv 2) pa_nil)) pa_nil)))))
      (pss_one (ps_ret (pe_call g_coordinates hr_coordinates rfl m_coordinates k_coordinates b_coordinates .nil pass0 (pa_cons (pe_fldK (K := K) (pv 0) rfl) (pa_cons (pv 3) (pa_cons (pe_fldK (K := K) (pv 0) rfl) (pa_cons (pe_op op_mulW pe_int (pe_fldK (K := K) (pv 0) rfl)) pa_nil)))))))), ?_⟩
  have F0 := Fr.start e
  have rl := hO.rl
  have n1 := hO.n1
  have hrr : ∀ r ∈ ob.o.rows, r.length = ob.o.rows.length ∧ Bn 12000 r := fun r hr => by rw [hO.rl]; exact hO.rw r hr
  obtain ⟨l1, b1⟩ := rowOf_ok hrr bx
  obtain ⟨l2, b2⟩ := rowOf_ok hrr by_
  refine st_set F0 (ev_call (Pre := ProPre) (F := fun x : L × L × L × Unit => prodOf x.1 x.2.1 x.2.2.1) (x := (ob.o.f, rowOf ob.o.rows x, rowOf ob.o.rows y, ())) (ea_cons (ev_f1 OC (ev_var rfl hob))
    (ea_cons (ev_meth (Pre := RoPre) (F := fun x : Ob C × L × Unit => rowOf x.1.o.rows x.2.1) (x := (x, ())) nf_row_of (ev_var rfl hob) (ea_cons (ev_var rfl hx) ea_nil) ⟨hO, lx, bx⟩)
    (ea_cons (ev_meth (Pre := RoPre) (F := fun x : Ob C × L × Unit => rowOf x.1.o.rows x.2.1) (x := (y, ())) nf_row_of (ev_var rfl hob) (ea_cons (ev_var rfl hy) ea_nil) ⟨hO, ly, by_⟩) ea_nil)))
    ⟨by dsimp only; have := hO.i.f0; omega, hO.i.f1, by dsimp only; omega, by dsimp only; omega, 100, _, _, hO.fb, b1, b2, by omega⟩) fun vr G1 H1 F1 e1 d1 => ?_
  have hob1 := Den.mono e1 hob
  obtain ⟨p1, p2⟩ := prodRow_ok hO bx by_
  obtain ⟨z1, z2⟩ := hO.prod lx ly
  refine st_ret F1 (ev_unsome ((ev_call (Pre := CoPre) (F := fun x : B × L × Int × Int × Unit => co x.1 x.2.1 x.2.2.1 x.2.2.2.1) (x := (ob.o.b, ob.o.prodRow x y, ob.o.p, 2 * ob.o.most, ())) (ea_cons (ev_f3 OC (ev_var rfl hob1)) (ea_cons (ev_var rfl d1) (ea_cons (ev_f2 OC (ev_var rfl hob1)) (ea_cons (ev_I (ev_int (i := 2)) (ev_f4 OC (ev_var rfl hob1)) (cmul (a := 2) (b := 10) (by decide) (by have := hO.m0; have := hO.m1; omega) (by decide))) ea_nil))))
    ⟨by dsimp only; rw [hO.nb]; omega, by dsimp only; rw [hO.nb]; exact p1, hO.i.p0, hO.i.p1, fun gk hgk => ?_, p2⟩).cast z1)) fun v G3 H3 s3 d3 => q v G3 H3 s3 d3
  obtain ⟨k1, k2, k3⟩ := hO.i.ks gk hgk
  have k4 := hO.k0 gk hgk
  have := hO.m0
  have := hO.m1
  exact ⟨by dsimp only; omega, by dsimp only; omega, k3⟩
/-! ### Order.rest_product -/
abbrev s_m_rest_product : Stmt := inClass (top 46) 3
theorem sc_m_rest_product : FnScope ["self", "one", "other", "number"] ["self", "one", "other"] (defScope s_m_rest_product) := ⟨rfl, rfl, rfl, by decide +kernel, rfl, by decide +kernel, by decide +kernel⟩
  -- slots 0:self 1:one 2:other 3:number
abbrev sp_m_rest_product (C : Addr) : Sp := SpF PrPre fun x : Ob C × L × L × Unit => x.1.o.rprod x.2.1 x.2.2.1
theorem ok_m_rest_product (T : Tx mg) (OC : Oc K mg C) (D_m_product : Dm P w K mg base C "product" 4 ["self", "one", "other"] (sp_m_product C)) {f : Addr} {fd : FuncData} (F : Fun K "rest_product" "Order.rest_product" s_m_rest_product f fd) : FnOk P w K mg base CX0 5 f fd ["self", "one", "other"] (sp_m_rest_product C) := by
  refine F.ok sc_m_rest_product (fun vs H Q E h => SpF.len h) (fun cdv A outer s H vs Q E hr h => ?_)
  obtain ⟨G, ⟨ob, x, y, _⟩, e, ⟨u, _, rfl, hob, v, _, rfl, hx, v2, _, rfl, hy, rfl⟩, ⟨hO, lx, ly, bx, by_⟩, q⟩ := h
  dsimp only at hob hx hy q lx ly bx by_ hO
  obtain ⟨f_m_product, fd_m_product, g_m_product, me_m_product, b_m_product⟩ := D_m_product
  have hr_m_product : Room 4 _ := hr.mono (by decide)
  refine ⟨_, (pss_one (ps_ret (pe_lc (own := [("number", 3)]) (tt := tYes) rfl sc_m_rest_product.nd (pi_listK (K := K) (pe_meth (pv 0) OC.cl me_m_product g_m_product hr_m_product b_m_product .nil pass0 (pa_cons (pv 1) (pa_cons (pv 2) pa_nil)))) (blkOk_by (N := ["self", "one", "other", "number"]) (sc := defScope s_m_rest_product) (by decide +kernel)) (fun _ _ _ _ _ => (pg_name (i := 3) sc_m_rest_product.nd rfl (Or.inl rfl))) (fun _ _ _ _ _ => pts_nil) (fun _ _ _ _ _ => (pe_op op_mod (pv 3) (pe_fldK (K := K) (pv 0) rfl)))))), ?_⟩
  have F0 := Fr.start e
  have n1 := hO.n1
  refine st_ret F0 (EvL.ev (el_lc (xs := ob.o.prod x y) (ys := ob.o.rprod x y) (ev_meth (Pre := PrPre) (F := fun x : Ob C × L × L × Unit => x.1.o.prod x.2.1 x.2.2.1) (x := (x, y, ())) nf_product (ev_var rfl hob) (ea_cons (ev_var rfl hx) (ea_cons (ev_var rfl hy) ea_nil)) ⟨hO, lx, ly, bx, by_⟩) (by simp [Od.rprod]) (by rw [(hO.prod lx ly).2]; omega) fun i a b va G' e' ha hb da => tn_name rfl ?_)) fun v G3 H3 s3 d3 => q v G3 H3 s3 d3
  obtain rfl : va = V.int a := da
  rw [map_at ha hb]
  exact ev_I (ev_var (x := a) rfl rfl) (ev_f2 OC (ev_var rfl (Den.mono e' hob))) (by show 0 < ob.o.p; exact hO.i.p0)
end
end Bw
set_option Elab.async false
set_option linter.all false
set_option maxRecDepth 100000
set_option maxHeartbeats 4000000
namespace Bw
open PySem L2 Bd
def nextF (o : Od) (f : Option L) (one : L) : Option L := match f with | none => some one | some c => some (o.rprod c one)
theorem raisedF_zero (o : Od) (n : Nat) (f : Option L) (one : L) : o.raisedF n f one 0 = f := by
  cases n with
  | zero => rfl
  | succ n => unfold Od.raisedF; rw [if_pos rfl]
theorem raisedF_fuel (o : Od) : ∀ (n m : Nat) (f : Option L) (one : L) (k : Nat), k < n → k < m → o.raisedF n f one k = o.raisedF m f one k
  | 0, _, _, _, _, h, _ => by omega
  | _, 0, _, _, _, _, h => by omega
  | n + 1, m + 1, f, one, k, h1, h2 => by
    unfold Od.raisedF
    by_cases hk : k = 0
    · rw [if_pos hk, if_pos hk]
    · rw [if_neg hk, if_neg hk]
      exact raisedF_fuel o n m _ _ _ (by omega) (by omega)
theorem raisedF_len {o : Od} (h : OPre o) : ∀ (n k : Nat) (f : Option L) (one : L), k < n → one.length = o.n → (∀ c, f = some c → c.length = o.n) → (k = 0 → f ≠ none) → ∃ c, o.raisedF n f one k = some c ∧ c.length = o.n
  | 0, _, _, _, h, _, _, _ => by omega
  | n + 1, k, f, one, hn, h1, h2, h3 => by
    by_cases hk : k = 0
    · subst hk
      rw [raisedF_zero]
      cases f with
      | none => exact absurd rfl (h3 rfl)
      | some c => exact ⟨c, rfl, h2 c rfl⟩
    · unfold Od.raisedF
      rw [if_neg hk]
      refine raisedF_len h n (k / 2) _ _ (by omega) (h.rprod h1 h1).1 (fun c hc => ?_) (fun h0 => ?_)
      · split at hc
        · cases f with
          | none => cases hc; exact h1
          | some d => cases hc; exact (h.rprod (h2 d rfl) h1).1
        · exact h2 c hc
      · have : k = 1 := by omega
        subst this
        rw [if_pos rfl]
        cases f <;> simp
theorem raised_len {o : Od} (h : OPre o) {one : L} {k : Nat} (h1 : one.length = o.n) (hk : 0 < k) : (o.raised one k).length = o.n := by
  obtain ⟨c, hc, lc⟩ := raisedF_len h (k + 1) k none one (by omega) h1 (fun c hc => by cases hc) (fun h0 => by omega)
  unfold Od.raised; rw [hc]; exact lc
theorem oftenF_ge {p : Int} {n : Nat} {q : Int} (h : ¬ q < n) : ∀ k, oftenF p n k q = q
  | 0 => rfl
  | k + 1 => by unfold oftenF; rw [if_neg h]
theorem bn_unit (n i : Nat) : Bn 60 (unit n i) := fun k => by
  rw [at_unit]; split <;> decide +kernel
section
variable {P : Program} {w : World} {K : PySem.W.Frag} {mg : Str → Option Value} {base : Heap} {C : Addr}
/-! ### Order.raised -/
abbrev s_m_raised : Stmt := inClass (top 46) 4
theorem sc_m_raised : FnScope ["self", "one", "often", "found"] ["self", "one", "often"] (defScope s_m_raised) := ⟨rfl, rfl, rfl, by decide +kernel, rfl, by decide +kernel, by decide +kernel⟩
  -- slots 0:self 1:one 2:often 3:found
def RaPre {C : Addr} (x : Ob C × L × Int × Unit) : Prop := OPre x.1.o ∧ x.2.1.length = x.1.o.n ∧ Bn 60 x.2.1 ∧ 0 < x.2.2.1 ∧ x.2.2.1 ≤ 10000
abbrev sp_m_raised (C : Addr) : Sp := SpF RaPre fun x : Ob C × L × Int × Unit => x.1.o.raised x.2.1 x.2.2.1.toNat
theorem ok_m_raised (T : Tx mg) (OC : Oc K mg C) (D_m_rest_product : Dm P w K mg base C "rest_product" 5 ["self", "one", "other"] (sp_m_rest_product C)) {f : Addr} {fd : FuncData} (F : Fun K "raised" "Order.raised" s_m_raised f fd) : FnOk P w K mg base CX0 6 f fd ["self", "one", "often"] (sp_m_raised C) := by
  refine F.ok sc_m_raised (fun vs H Q E h => SpF.len h) (fun cdv A outer s H vs Q E hr h => ?_)
  obtain ⟨G, ⟨ob, x, k, _⟩, e, ⟨u, _, rfl, hob, v, _, rfl, hx, _, _, rfl, hk, rfl⟩, ⟨hO, lx, bx, k0, k1⟩, q⟩ := h
  obtain rfl : _ = V.int k := hk
  dsimp only at hob hx q lx bx hO k0 k1
  obtain ⟨f_m_rest_product, fd_m_rest_product, g_m_rest_product, me_m_rest_product, b_m_rest_product⟩ := D_m_rest_product
  have hr_m_rest_product : Room 5 _ := hr.mono (by decide)
  refine ⟨_, (pss_cons (ps_set (i := 3) sc_m_raised.nd rfl (Or.inl rfl) pe_non)
      (pss_cons (ps_while PassesOwn.never (pt_cmpR op_gt (pv 2) pe_int (nomark _)) (pss_cons (ps_if (pt_cmpR op_eq (pe_op op_mod (pv 2) pe_int) pe_int (nomark _)) (pss_one (ps_set (i := 3) sc_m_raised.nd rfl (Or.inl rfl) (pe_ifExp (pt_cmpR op_isN (pv 3) pe_non (nomark _)) (pe_callTy (listK (K := K)) (by rfl) T.b_list (by decide +kernel) (pa_cons (pv 1) pa_nil)) (pe_meth (pv 0) OC.cl me_m_rest_product g_m_rest_product hr_m_rest_product b_m_rest_product .nil pass0 (pa_cons (pv 3) (pa_cons (pv 1) pa_nil)))))) pss_nil)
      (pss_cons (ps_set (i := 1) sc_m_raised.nd rfl (Or.inl rfl) (pe_meth (pv 0) OC.cl me_m_rest_product g_m_rest_product hr_m_rest_product b_m_rest_product .nil pass0 (pa_cons (pv 1) (pa_cons (pv 1) pa_nil))))
      (pss_one (ps_set (i := 2) sc_m_raised.nd rfl (Or.inl rfl) (pe_op op_fdivZ (pv 2) pe_int))))))
      (pss_one (ps_ret (pv 3))))), ?_⟩
  have F0 := Fr.start e
  obtain ⟨N, rfl⟩ : ∃ N : Nat, k = (N : Int) := ⟨k.toNat, by omega⟩
  have eN : ((N : Int)).toNat = N := by simp
  rw [eN] at q
  have n1 := hO.n1
  refine st_set F0 (x := (none : Option L)) ev_non fun vf G1 H1 F1 e1 d1 => ?_
  refine st_while (G0 := G) (H0 := H) (fun m σ H' => ∃ G' found one vo vf, Fr G H G' [] H' ∧ σ = [some u, some vo, some (.int (m : Int)), some vf] ∧ Den.D G' vo one ∧ Den.D G' vf (found : Option L) ∧ one.length = ob.o.n ∧ Bn 60 one ∧ (∀ c, found = some c → c.length = ob.o.n ∧ Bn 60 c) ∧ (m = 0 → found ≠ none) ∧ m ≤ N ∧
    ob.o.raisedF (m + 1) found one m = ob.o.raisedF (N + 1) none x N) N ⟨G1, none, x, v, vf, F1, rfl, Den.mono e1 hx, d1, lx, bx, (fun c hc => (by cases hc)), (fun h0 => (by omega)), Nat.le_refl _, rfl⟩ ?_
  rintro m σ H2 ⟨G2, found, one, vo, vf, F2, rfl, dvo, dvf, l1, b1, hf, h0, hmN, hR⟩
  refine ⟨G2, [], _, F2, et_test (ev_B0 (ev_var (x := (m : Int)) rfl rfl) ev_int), fun hb G3 H3 F3 e3 => ?_, fun hb G3 H3 F3 e3 => ?_⟩
  · have hb : 0 < (m : Int) := of_decide_eq_true hb
    have hm : ¬ m = 0 := by omega
    have hob3 := Den.mono F3.s.g hob
    have dvo3 := Den.mono e3 dvo
    have dvf3 := Den.mono e3 dvf
    have step : ∀ (found' : Option L) vf' G' H', Fr G H G' [] H' → Same G3 G' → Den.D G' vf' found' → (∀ c, found' = some c → c.length = ob.o.n ∧ Bn 60 c) → found' = (if m % 2 = 1 then nextF ob.o found one else found) →
        ∀ D : Ends, (∀ σ' H', (∃ m', m' < m ∧ ∃ G' found one vo vf, Fr G H G' [] H' ∧ σ' = [some u, some vo, some (.int (m' : Int)), some vf] ∧ Den.D G' vo one ∧ Den.D G' vf (found : Option L) ∧ one.length = ob.o.n ∧ Bn 60 one ∧ (∀ c, found = some c → c.length = ob.o.n ∧ Bn 60 c) ∧ (m' = 0 → found ≠ none) ∧ m' ≤ N ∧
          ob.o.raisedF (m' + 1) found one m' = ob.o.raisedF (N + 1) none x N) → D.nx σ' H') →
        tSeq (tAsg (tMeth C "rest_product" (sp_m_rest_product C) [] E0 (tVar 0) (tCons (tVar 1) (tCons (tVar 1) tNil))) (gName 1)) (tAsg (tOp (rI CDivZ fun i j => .int (i.fdiv j)) (tVar 2) (tC (.int 2))) (gName 2)) D [some u, some vo, some (.int (m : Int)), some vf'] H' := by
      intro found' vf' G' H' F' e' d' hc' hfe D hD
      refine st_seq (st_set F' (ev_meth (Pre := PrPre) (F := fun x : Ob C × L × L × Unit => x.1.o.rprod x.2.1 x.2.2.1) (x := (one, one, ())) nf_rest_product (ev_var rfl (Den.mono e' hob3)) (ea_cons (ev_var rfl (Den.mono e' dvo3)) (ea_cons (ev_var rfl (Den.mono e' dvo3)) ea_nil)) ⟨hO, l1, l1, b1, b1⟩) fun v4 G4 H4 F4 e4 d4 => ?_)
      refine st_setI F4 (ev_I (ev_var (x := (m : Int)) rfl rfl) (ev_int (i := 2)) (cdivS (by decide) (by decide))) fun G5 H5 F5 e5 => ?_
      refine hD _ _ ⟨m / 2, by omega, G5, found', ob.o.rprod one one, v4, vf', F5, ?_, Den.mono e5 d4, Den.mono (e4.trans e5) d', (hO.rprod l1 l1).1, (hO.rprod l1 l1).2, hc', ?_, by omega, ?_⟩
      · rw [fdivE (by decide)]
        have : (m : Int) / 2 = ((m / 2 : Nat) : Int) := by omega
        rw [this]; rfl
      · intro hz
        have : m % 2 = 1 := by omega
        rw [hfe, if_pos this]
        cases found <;> simp [nextF]
      · rw [← hR]
        have e1 : ob.o.raisedF (m + 1) found one m = ob.o.raisedF m found' (ob.o.rprod one one) (m / 2) := by
          have e0 : ob.o.raisedF (m + 1) found one m = if m = 0 then found else ob.o.raisedF m (if m % 2 = 1 then nextF ob.o found one else found) (ob.o.rprod one one) (m / 2) := by
            show (if m = 0 then found else _) = _
            cases found <;> rfl
          rw [e0, if_neg hm, hfe]
        rw [e1]
        exact raisedF_fuel _ _ _ _ _ _ (by omega) (by omega)
    have hmod : (m : Int) % 2 = ((m % 2 : Nat) : Int) := by omega
    refine st_seq ?_
    refine st_if F3 (et_test (ev_eqI (ev_I (ev_var (x := (m : Int)) rfl rfl) (ev_int (i := 2)) (by show (0 : Int) < 2; decide)) (ev_int (i := 1)))) (fun hb2 G4 H4 F4 e4 => ?_) (fun hb2 G4 H4 F4 e4 => ?_)
    · have hb2 : (m : Int) % 2 = 1 := of_decide_eq_true hb2
      have hb2 : m % 2 = 1 := by omega
      refine st_set F4 (x := nextF ob.o found one) (ev_if (et_test (ev_isN (ev_var rfl (Den.mono e4 dvf3)) noL)) (fun hc => ?_) (fun hc => ?_)) fun v5 G5 H5 F5 e5 d5 => ?_
      · cases found with
        | some c => cases hc
        | none => exact ev_some (EvL.ev (el_list (ev_var rfl (Den.mono e4 dvo3))))
      · cases found with
        | none => cases hc
        | some c => exact ev_some (ev_meth (Pre := PrPre) (F := fun x : Ob C × L × L × Unit => x.1.o.rprod x.2.1 x.2.2.1) (x := (c, one, ())) nf_rest_product (ev_var rfl (Den.mono e4 hob3)) (ea_cons (ev_var rfl (Den.mono e4 dvf3)) (ea_cons (ev_var rfl (Den.mono e4 dvo3)) ea_nil)) ⟨hO, (hf c rfl).1, l1, (hf c rfl).2, b1⟩)
      · refine step _ v5 G5 H5 F5 (e4.trans e5) d5 (fun c hc => ?_) (by rw [if_pos hb2]) _ (fun _ _ h => h)
        cases found with
        | none => cases hc; exact ⟨l1, b1⟩
        | some d => cases hc; exact hO.rprod (hf d rfl).1 l1
    · have hb2 : ¬ (m : Int) % 2 = 1 := of_decide_eq_false hb2
      have hb2 : ¬ m % 2 = 1 := by omega
      exact nxt (step found vf G4 H4 F4 e4 (Den.mono e4 dvf3) hf (by rw [if_neg hb2]) _ (fun _ _ h => h))
  · have hb : ¬ 0 < (m : Int) := of_decide_eq_false hb
    have hm : m = 0 := by omega
    subst hm
    rw [raisedF_zero] at hR
    cases found with
    | none => exact absurd rfl (h0 rfl)
    | some c =>
      refine st_ret F3 (ev_unsome (ev_var rfl (Den.mono e3 dvf))) fun v G4 H4 s4 d4 => q v G4 H4 s4 ?_
      unfold Od.raised
      rw [← hR]; exact d4
/-! ### Order.units -/
abbrev s_m_units : Stmt := inClass (top 46) 5
theorem sc_m_units : FnScope ["self", "many", "i", "j"] ["self"] (defScope s_m_units) := ⟨rfl, rfl, rfl, by decide +kernel, rfl, by decide +kernel, by decide +kernel⟩
  -- slots 0:self 1:many 2:i 3:j
def UnPre {C : Addr} (x : Ob C × Unit) : Prop := OPre x.1.o
abbrev sp_m_units (C : Addr) : Sp := SpF UnPre fun x : Ob C × Unit => Bd.units x.1.o.rows.length
theorem ok_m_units (T : Tx mg) (OC : Oc K mg C)  {f : Addr} {fd : FuncData} (F : Fun K "units" "Order.units" s_m_units f fd) : FnOk P w K mg base CX0 1 f fd ["self"] (sp_m_units C) := by
  refine F.ok sc_m_units (fun vs H Q E h => SpF.len h) (fun cdv A outer s H vs Q E hr h => ?_)
  obtain ⟨G, ⟨ob, _⟩, e, ⟨u, _, rfl, hob, rfl⟩, hO, q⟩ := h
  have hO : OPre ob.o := hO
  dsimp only at hob q
  
  refine ⟨_, (pss_cons (ps_set (i := 1) sc_m_units.nd rfl (Or.inr rfl) (pe_callB (lenK (K := K)) (by rfl) T.b_len PySem.boot_len (pa_cons (pe_fldK (K := K) (pv 0) rfl) pa_nil)))
      (pss_one (ps_ret (pe_lc (own := [("i", 2)]) (tt := tYes) rfl sc_m_units.nd (pi_range1 rfl T.b_range (pa_cons (pv 1) pa_nil)) (blkOk_by (N := ["self", "many", "i", "j"]) (sc := defScope s_m_units) (by decide +kernel)) (fun _ _ _ _ _ => (pg_name (i := 2) sc_m_units.nd rfl (Or.inr rfl))) (fun _ _ _ _ _ => pts_nil) (fun _ _ _ _ _ => (pe_lc (own := [("j", 3)]) (tt := tYes) rfl sc_m_units.nd (pi_range1 rfl T.b_range (pa_cons (pv 1) pa_nil)) (blkOk_by (by rfl)) (fun _ _ _ _ _ => (pg_name (i := 3) sc_m_units.nd rfl (Or.inl rfl))) (fun _ _ _ _ _ => pts_nil) (fun _ _ _ _ _ => (pe_callTy call_int1 (by rfl) T.b_int (by decide +kernel) (pa_cons (pe_cmpR op_eq (pv 2) (pv 3) (nomark _)) pa_nil))))))))), ?_⟩
  have F0 := Fr.start e
  have n1 := hO.n1
  have rl := hO.rl
  refine st_setI F0 (ev_len (ev_f5 OC (ev_var rfl hob))) fun G1 H1 F1 e1 => ?_
  refine st_ret F1 (EvL.ev (el_lcR (n := ((ob.o.rows.length : Nat) : Int)) (ys := Bd.units ob.o.rows.length) (ea_cons (ev_var rfl rfl) ea_nil) (by rw [len_units]; simp) (by omega) (by omega) (fun _ => rfl) fun i y G' e' hy => EvL.ev (el_lcR (n := ((ob.o.rows.length : Nat) : Int)) (ys := y) (ea_cons (ev_var rfl rfl) ea_nil) (by rw [(units_at hy).2, len_unit]; simp) (by omega) (by omega) (fun _ => rfl) fun j z G'' e'' hz => ?_))) fun v G4 H4 s4 d4 => q v G4 H4 s4 d4
  obtain ⟨_, rfl⟩ := units_at hy
  rw [(unit_at hz).2]
  exact ev_unit (ev_var rfl rfl) (ev_var rfl rfl)
end
end Bw
set_option Elab.async false
set_option linter.all false
set_option maxRecDepth 100000
set_option maxHeartbeats 4000000
namespace Bw
open PySem L2 Bd
theorem coN_bn {b : B} {row : L} {p most : Int} (hl : row.length = b.length) (hp : 0 < p) (hk : ∀ gk ∈ b, Bn 9000 gk.1) (hb : Bn 400000 row) : ∀ (m : Nat), m ≤ b.length → ∀ rest found, coN b row p most m = some (rest, found) → rest.length = b.length ∧ found.length = b.length ∧ Bn (400000 + m * 9001) rest ∧ Bn (400000 + m * 9001) found
  | 0, _, rest, found, h => by
    cases h
    exact ⟨hl, len_zeros _, fun k => by rw [Nat.zero_mul, Nat.add_zero]; exact hb k, fun k => by rw [at_zeros]; exact Nat.zero_le _⟩
  | m + 1, hm, rest, found, h => by
    have e : coN b row p most (m + 1) = coSt b p most (b.length - 1 - m) (coN b row p most m) := rfl
    rw [e] at h
    cases hc : coN b row p most m with
    | none => rw [hc] at h; cases h
    | some st =>
      obtain ⟨r, f⟩ := st
      obtain ⟨l1, l2, b1, b2⟩ := coN_bn hl hp hk hb m (by omega) r f hc
      rw [hc] at h
      unfold coSt at h
      dsimp only at h
      have hd : b.length - 1 - m < b.length := by omega
      have hx : b[b.length - 1 - m]? = some (b.getD (b.length - 1 - m) ([], 0)) := by
        rw [List.getD_eq_getElem?_getD, List.getElem?_eq_getElem hd]; rfl
      have gb : Bn 9000 (gOf b (b.length - 1 - m)) := hk _ (List.mem_iff_getElem?.mpr ⟨_, hx⟩)
      split at h
      · cases h
      · rename_i hne
        have hz : at_ r (b.length - 1 - m) % pw p (most - kOf b (b.length - 1 - m)) = 0 := by simpa using hne
        have hq : at_ r (b.length - 1 - m) / pw p (most - kOf b (b.length - 1 - m)) * pw p (most - kOf b (b.length - 1 - m)) = at_ r (b.length - 1 - m) := Int.ediv_mul_cancel (Int.dvd_of_emod_eq_zero hz)
        cases h
        have e9 : 400000 + (m + 1) * 9001 = 400000 + m * 9001 + 9000 + 1 := by omega
        refine ⟨by rw [len_tab]; exact l1, by rw [List.length_set]; exact l2, fun j => ?_, fun j => ?_⟩
        · rw [at_tab, hq]
          split
          · rw [e9]
            exact natAbs_sub_le (Nat.le_trans (b1 j) (Nat.pow_le_pow_right (by decide) (by omega))) (natAbs_mul_le (b1 _) (gb j))
          · exact Nat.zero_le _
        · rw [at_set]
          split
          · exact Nat.le_trans (Nat.le_trans (Int.natAbs_ediv_le_natAbs _ _) (b1 _)) (Nat.pow_le_pow_right (by decide) (by omega))
          · exact Nat.le_trans (b2 j) (Nat.pow_le_pow_right (by decide) (by omega))
theorem OPre.prod_bn {o : Od} (h : OPre o) {x y : L} (hx : x.length = o.n) (hy : y.length = o.n) (bx : Bn 60 x) (by_ : Bn 60 y) : Bn 600000 (o.prod x y) := by
  obtain ⟨z1, _⟩ := h.prod hx hy
  obtain ⟨p1, p2⟩ := prodRow_ok h bx by_
  have n1 := h.n1
  have nb := h.nb
  unfold Od.prodO co at z1
  cases hc : coN o.b (o.prodRow x y) o.p (2 * o.most) o.b.length with
  | none => rw [hc] at z1; cases z1
  | some st =>
    obtain ⟨r, f⟩ := st
    obtain ⟨_, _, _, b2⟩ := coN_bn (by rw [nb]; exact p1) h.i.p0 (fun gk hgk => (h.i.ks gk hgk).2.2) p2 o.b.length (Nat.le_refl _) r f hc
    rw [hc] at z1
    have : f = o.prod x y := Option.some.inj z1
    rw [← this]
    refine b2.mono ?_
    have : o.b.length * 9001 ≤ 19 * 9001 := Nat.mul_le_mul_right _ (by omega)
    omega
theorem ker_len {T : LL} {m w p wide : Nat} (P : Pr p) (hl : T.length = m) (hw : ∀ i, i < m → (T.getD i []).length = w) : (ker T wide p).length ≤ m := by
  have K := kerN_ok P hl hw wide
  unfold ker
  rw [List.length_drop, K.U.len]; omega
theorem ker_rows {T : LL} {m w p wide : Nat} (P : Pr p) (hp : p ≤ 47) (hl : T.length = m) (hw : ∀ i, i < m → (T.getD i []).length = w) : ∀ r ∈ ker T wide p, r.length = m ∧ Bn 60 r := by
  have K := ker_ok (wide := wide) P hl hw
  intro r hr
  refine ⟨K.wid r hr, fun k => ?_⟩
  obtain ⟨i, hi, rfl⟩ := List.getElem_of_mem hr
  have e : at_ (ker T wide p)[i] k = ent (ker T wide p) i k := by
    unfold ent; rw [List.getD_eq_getElem?_getD, List.getElem?_eq_getElem hi]; rfl
  rw [e]
  have := K.lo i k
  have := K.hi i k
  omega
theorem getD_mem {r : LL} {i : Nat} (h : i < r.length) : r.getD i [] ∈ r := List.mem_iff_getElem?.mpr ⟨i, by rw [List.getD_eq_getElem?_getD, List.getElem?_eq_getElem h]; rfl⟩
theorem getD_at {r : LL} {i : Nat} (h : i < r.length) : r[i]? = some (r.getD i []) := by rw [List.getD_eq_getElem?_getD, List.getElem?_eq_getElem h]; rfl
theorem lastUnit_snoc {rows : LL} {d : Nat} {p : Int} {i : Nat} {row : L} (h : rows[i]? = some row) : lastUnit (rows.take (i + 1)) d p = if at_ row d % p ≠ 0 then some row else lastUnit (rows.take i) d p := by
  rw [List.take_add_one, h]
  unfold lastUnit
  rw [List.foldl_append]; rfl
section
variable {P : Program} {w : World} {K : PySem.W.Frag} {mg : Str → Option Value} {base : Heap} {C : Addr}
/-! ### Order.basis_of -/
abbrev s_m_basis_of : Stmt := inClass (top 46) 7
theorem sc_m_basis_of : FnScope ["self", "some", "times_p", "many", "row", "rows", "found", "d", "best", "back", "number", "k"] ["self", "some", "times_p"] (defScope s_m_basis_of) := ⟨rfl, rfl, rfl, by decide +kernel, rfl, by decide +kernel, by decide +kernel⟩
  -- slots 0:self 1:some 2:times_p 3:many 4:row 5:rows 6:found 7:d 8:best 9:back 10:number 11:k
def BoPre {C : Addr} (x : Ob C × LL × LL × Unit) : Prop := OPre x.1.o ∧ x.2.1.length ≤ 1000 ∧ (∀ r ∈ x.2.1, r.length = x.1.o.n ∧ Bn 60 r) ∧ x.2.2.1.length = x.1.o.n
abbrev sp_m_basis_of (C : Addr) : Sp := SpF BoPre fun x : Ob C × LL × LL × Unit => bo x.2.1 x.2.2.1 x.1.o.rows.length x.1.o.p
theorem ok_m_basis_of (T : Tx mg) (OC : Oc K mg C) (D_inverse : Df P w K mg base "inverse" 1 ["number", "modulus"] sp_inverse) {f : Addr} {fd : FuncData} (F : Fun K "basis_of" "Order.basis_of" s_m_basis_of f fd) : FnOk P w K mg base CX0 2 f fd ["self", "some", "times_p"] (sp_m_basis_of C) := by
  refine F.ok sc_m_basis_of (fun vs H Q E h => SpF.len h) (fun cdv A outer s H vs Q E hr h => ?_)
  obtain ⟨G, ⟨ob, sm, tp, _⟩, e, ⟨u, _, rfl, hob, v, _, rfl, hsm, v2, _, rfl, htp, rfl⟩, ⟨hO, ls, bs, lt⟩, q⟩ := h
  dsimp only at hob hsm htp q ls bs lt hO
  obtain ⟨f_inverse, fd_inverse, g_inverse, m_inverse, k_inverse, b_inverse⟩ := D_inverse
  have hr_inverse : Room 1 _ := hr.mono (by decide)
  refine ⟨_, (pss_cons (ps_set (i := 3) sc_m_basis_of.nd rfl (Or.inr rfl) (pe_callB (lenK (K := K)) (by rfl) T.b_len PySem.boot_len (pa_cons (pe_fldK (K := K) (pv 0) rfl) pa_nil)))
      (pss_cons (ps_setLc (i := 5) (own := [("row", 4)]) (tt := tYes) rfl sc_m_basis_of.nd rfl rfl (sw_true rfl rfl rfl (by decide +kernel)) (pi_listK (K := K) (pv 1)) (blkOk_by (N := ["self", "some", "times_p", "many", "row", "rows", "found", "d", "best", "back", "number", "k"]) (sc := defScope s_m_basis_of) (by decide +kernel)) (fun _ _ _ _ _ => (pg_name (i := 4) sc_m_basis_of.nd rfl (Or.inl rfl))) (fun _ _ _ _ _ => pts_nil) (fun _ _ _ _ _ => (pe_callTy (listK (K := K)) (by rfl) T.b_list (by decide +kernel) (pa_cons (pv 4) pa_nil))))
      (pss_cons (ps_set (i := 6) sc_m_basis_of.nd rfl (Or.inl rfl) (pe_lst pa_nil))
      (pss_cons (ps_for PassesOwn.never rfl (pi_range3 rfl T.b_range (pa_cons (pe_op op_sub (pv 3) pe_int) (pa_cons (pe_un un_neg pe_int) (pa_cons (pe_un un_neg pe_int) pa_nil)))) (pg_name (i := 7) sc_m_basis_of.nd rfl (Or.inr rfl)) (pss_cons (ps_set (i := 8) sc_m_basis_of.nd rfl (Or.inr rfl) pe_non)
      (pss_cons (ps_for PassesOwn.never rfl (pi_listK (K := K) (pv 5)) (pg_name (i := 4) sc_m_basis_of.nd rfl (Or.inl rfl)) (pss_one (ps_if (pt_cmpR op_ne (pe_op op_mod (pe_ix (ixL (K := K)) (pv 4) (pv 7) (fun _ _ => rfl)) (pe_fldK (K := K) (pv 0) rfl)) pe_int (nomark _)) (pss_one (ps_set (i := 8) sc_m_basis_of.nd rfl (Or.inr rfl) (pv 4))) pss_nil)))
      (pss_one (ps_if (pt_cmpR op_isN (pv 8) pe_non (nomark _)) (pss_one (ps_expr (pe_bm PySem.F.plainAttrs_list PySem.F.slot_list_append PySem.F.type_list_append mt_append (pv 6) (pa_cons (pe_ix (ixL (K := K)) (pv 2) (pv 7) (fun _ _ => rfl)) pa_nil)))) (pss_cons (ps_set (i := 9) sc_m_basis_of.nd rfl (Or.inr rfl) (pe_call g_inverse hr_inverse rfl m_inverse k_inverse b_inverse .nil pass0 (pa_cons (pe_ix (ixL (K := K)) (pv 8) (pv 7) (fun _ _ => rfl)) (pa_cons (pe_fldK (K := K) (pv 0) rfl) pa_nil))))
      (pss_cons (ps_set (i := 8) sc_m_basis_of.nd rfl (Or.inr rfl) (pe_lc (own := [("number", 10)]) (tt := tYes) rfl sc_m_basis_of.nd (pi_listK (K := K) (pv 8)) (blkOk_by (N := ["self", "some", "times_p", "many", "row", "rows", "found", "d", "best", "back", "number", "k"]) (sc := defScope s_m_basis_of) (by decide +kernel)) (fun _ _ _ _ _ => (pg_name (i := 10) sc_m_basis_of.nd rfl (Or.inl rfl))) (fun _ _ _ _ _ => pts_nil) (fun _ _ _ _ _ => (pe_op op_mod (pe_op op_mulW (pv 10) (pv 9)) (pe_fldK (K := K) (pv 0) rfl)))))
      (pss_cons (ps_expr (pe_bm PySem.F.plainAttrs_list PySem.F.slot_list_append PySem.F.type_list_append mt_append (pv 6) (pa_cons (pv 8) pa_nil)))
      (pss_one (ps_setLc (i := 5) (own := [("row", 4)]) (tt := tYes) rfl sc_m_basis_of.nd rfl rfl (sw_true rfl rfl rfl (by decide +kernel)) (pi_listK (K := K) (pv 5)) (blkOk_by (N := ["self", "some", "times_p", "many", "row", "rows", "found", "d", "best", "back", "number", "k"]) (sc := defScope s_m_basis_of) (by decide +kernel)) (fun _ _ _ _ _ => (pg_name (i := 4) sc_m_basis_of.nd rfl (Or.inr rfl))) (fun _ _ _ _ _ => pts_nil) (fun _ _ _ _ _ => (pe_lc (own := [("k", 11)]) (tt := tYes) rfl sc_m_basis_of.nd (pi_range1 rfl T.b_range (pa_cons (pv 3) pa_nil)) (blkOk_by (by rfl)) (fun _ _ _ _ _ => (pg_name (i := 11) sc_m_basis_of.nd rfl (Or.inl rfl))) (fun _ _ _ _ _ => pts_nil) (fun _ _ _ _ _ => (pe_op op_mod (pe_op op_sub (pe_ix (ixL (K := K)) (pv 4) (pv 11) (fun _ _ => rfl)) (pe_op op_mulW (pe_ix (ixL (K := K)) (pv 4) (pv 7) (fun _ _ => rfl)) (pe_ix (ixL (K := K)) (pv 8) (pv 11) (fun _ _ => rfl)))) (pe_fldK (K := K) (pv 0) rfl)))))))))))))))
      (pss_one (ps_ret (pe_listRev rfl (by rfl) T.b_list (by rfl) T.b_reversed (pv 6)))))))), ?_⟩
  have F0 := Fr.start e
  have n1 := hO.n1
  have rl := hO.rl
  rw [rl] at q
  obtain ⟨p2, p47⟩ := hO.pp
  refine st_setI F0 ((ev_len (ev_f5 OC (ev_var rfl hob))).cast (y := (ob.o.n : Int)) (by rw [rl])) fun G1 H1 F1 e1 => ?_
  refine st_set F1 (EvL.ev (el_lc (xs := sm) (ys := sm) (ev_var rfl (Den.mono e1 hsm)) rfl (by omega) fun i x y va G' e' hx hy d => tn_name rfl ?_)) fun vr G2 H2 F2 e2 d2 => ?_
  · rw [hx] at hy; cases hy
    exact EvL.ev (el_list (ev_var rfl d))
  refine st_setL F2 (el_nil (α := L)) fun l vs0 G3 H3 F3 e3 d0 => ?_
  cases d0
  refine st_for3 (m := ob.o.n) F3 (ea_cons (ev_I0 (ev_var (x := (ob.o.n : Int)) rfl rfl) ev_int) (ea_cons (ev_neg ev_int) (ea_cons (ev_neg ev_int) ea_nil))) (by omega)
    (fun t σ H' => ∃ G' vs vr row d bs bk nu k, Fr G H G' ((l, vs) :: []) H' ∧ Paired (Den.D G') vs (boN sm tp ob.o.n ob.o.p t).1 ∧ vs.length = t ∧ Den.D G' vr (boN sm tp ob.o.n ob.o.p t).2 ∧ (boN sm tp ob.o.n ob.o.p t).2.length ≤ 1000 ∧ (∀ r ∈ (boN sm tp ob.o.n ob.o.p t).2, r.length = ob.o.n ∧ Bn 60 r) ∧
      σ = [some u, some v, some v2, some (.int (ob.o.n : Int)), row, some vr, some (.ref l), d, bs, bk, nu, k])
    (fun G4 H4 F4 e4 => ⟨G4, [], vr, none, none, none, none, none, none, F4, .nil, rfl, Den.mono (e3.trans e4) d2, ls, bs, rfl⟩) ?_ ?_
  · rintro t σ H4 ht ⟨G4, vs, vr, row, d, bs4, bk, nu, k, F4, hvs, hlt, dvr, hlen, hr2, rfl⟩
    have e : boN sm tp ob.o.n ob.o.p (t + 1) = boSt ob.o.p tp ob.o.n (ob.o.n - 1 - t) (boN sm tp ob.o.n ob.o.p t) := rfl
    rw [e]
    generalize boN sm tp ob.o.n ob.o.p t = st at *
    obtain ⟨fo, rest⟩ := st
    dsimp only at hvs dvr hlen hr2
    have hdn : ob.o.n - 1 - t < ob.o.n := by omega
    have hob4 := Den.mono F4.s.g hob
    refine st_set F4 (x := (none : Option L)) ev_non fun vb G5 H5 F5 e5 d5 => ?_
    obtain rfl : vb = V.non := d5
    refine st_forX F5 (ev_var rfl (Den.mono e5 dvr)) (fun Gs i G' σ H' => Same Gs G' ∧ ∃ vb row, Fr G H G' ((l, vs) :: []) H' ∧ Den.D G' vb (lastUnit (rest.take i) (ob.o.n - 1 - t) ob.o.p) ∧ σ = [some u, some v, some v2, some (.int (ob.o.n : Int)), row, some vr, some (.ref l), some (.int ((ob.o.n - 1 - t : Nat) : Int)), some vb, bk, nu, k])
      (fun Gs i G' σ H' ⟨s1, vb, row, F', _⟩ => ⟨s1, F'.o.i⟩) (fun G6 H6 F6 e6 => ⟨Same.refl _, .non, row, F6, rfl, rfl⟩) ?_ ?_
    · rintro Gs i r va G' σ H' eG hi dv ⟨s1, vb, row', F', dvb, rfl⟩
      have hmem : r ∈ rest := List.mem_iff_getElem?.mpr ⟨i, hi⟩
      obtain ⟨rl', rb⟩ := hr2 _ hmem
      have dv' := Den.mono s1 dv
      have hob' := Den.mono F'.s.g hob
      refine st_if F' (et_test (ev_neI (ev_I (ev_ixI (k := ob.o.n - 1 - t) (ev_var rfl dv') (ev_var (x := ((ob.o.n - 1 - t : Nat) : Int)) rfl rfl) rfl (by omega)) (ev_f2 OC (ev_var rfl hob')) (by show 0 < ob.o.p; omega)) (ev_int (i := 0)))) (fun hb G7 H7 F7 e7 => ?_) (fun hb G7 H7 F7 e7 => ?_)
      · have hb : at_ r (ob.o.n - 1 - t) % ob.o.p ≠ 0 := bnT hb
        refine st_set F7 (x := some r) (ev_some (ev_var rfl (Den.mono e7 dv'))) fun v8 G8 H8 F8 e8 d8 => ⟨G8, (s1.trans e7).trans e8, v8, some va, F8, ?_, rfl⟩
        rw [lastUnit_snoc hi, if_pos hb]; exact d8
      · have hb : at_ r (ob.o.n - 1 - t) % ob.o.p = 0 := bnF hb
        refine nxt ⟨G7, s1.trans e7, vb, some va, F7, ?_, rfl⟩
        rw [lastUnit_snoc hi, if_neg (by simpa using hb)]; exact Den.mono e7 dvb
    · rintro Gs G6 σ H6 eG ⟨s1, vb, row', F6, dvb, rfl⟩
      rw [List.take_of_length_le (Nat.le_refl _)] at dvb
      have e46 := e5.trans (eG.trans s1)
      have hvs6 : Paired (Den.D G6) vs fo := Paired.imp (fun _ _ z => Den.mono e46 z) hvs
      have dvr6 := Den.mono e46 dvr
      refine st_if F6 (et_test (ev_isN (ev_var rfl dvb) noL)) (fun hb G8 H8 F8 e8 => ?_) (fun hb G8 H8 F8 e8 => ?_)
      · have hb : lastUnit rest (ob.o.n - 1 - t) ob.o.p = none := by simpa using hb
        have htp8 := Den.mono F8.s.g htp
        refine st_app F8 rfl (x := tp.getD (ob.o.n - 1 - t) []) (ev_ix (k := ob.o.n - 1 - t) (ev_var rfl htp8) (ev_var (x := ((ob.o.n - 1 - t : Nat) : Int)) rfl rfl) rfl (getD_at (by omega))) (by omega) fun v9 G9 H9 F9 e9 d9 => ?_
        have est : boSt ob.o.p tp ob.o.n (ob.o.n - 1 - t) (fo, rest) = (fo ++ [tp.getD (ob.o.n - 1 - t) []], rest) := by unfold boSt; dsimp only; rw [hb]
        rw [est]
        exact ⟨G9, vs ++ [v9], vr, _, _, _, _, _, _, F9, Paired.app (Paired.imp (fun _ _ z => Den.mono (e8.trans e9) z) hvs6) (.cons d9 .nil), by simp [hlt], Den.mono (e8.trans e9) dvr6, hlen, hr2, rfl⟩
      · cases hc : lastUnit rest (ob.o.n - 1 - t) ob.o.p with
        | none => rw [hc] at hb; cases hb
        | some c =>
          obtain ⟨cm, _⟩ := (lastUnit_ok rest (ob.o.n - 1 - t) ob.o.p).1 c hc
          obtain ⟨cl, cb⟩ := hr2 c cm
          rw [hc] at dvb
          have dc : Den.D G8 vb c := Den.mono e8 dvb
          have hob8 := Den.mono F8.s.g hob
          have ir := inv_range (x := at_ c (ob.o.n - 1 - t)) (show 0 < ob.o.p by omega)
          refine st_setI F8 (ev_call (Pre := InvPre) (F := fun x : Int × Int × Unit => inv x.1 x.2.1) (x := (at_ c (ob.o.n - 1 - t), ob.o.p, ())) (ea_cons (ev_ixI (k := ob.o.n - 1 - t) (ev_var rfl dc) (ev_var (x := ((ob.o.n - 1 - t : Nat) : Int)) rfl rfl) rfl (by omega)) (ea_cons (ev_f2 OC (ev_var rfl hob8)) ea_nil)) ⟨by dsimp only; omega, by
            have := two8000
            dsimp only
            generalize (2 : Int) ^ 8000 = z at *
            omega⟩) fun G9 H9 F9 e9 => ?_
          dsimp only
          have hib : (inv (at_ c (ob.o.n - 1 - t)) ob.o.p).natAbs ≤ 2 ^ 6 := by omega
          refine st_set F9 (EvL.ev (el_lc (xs := c) (ys := c.map fun x => x * inv (at_ c (ob.o.n - 1 - t)) ob.o.p % ob.o.p) (ev_var rfl (Den.mono e9 dc)) (by simp) (by omega) fun i a b va G' e' ha hb' da => tn_name rfl ?_)) fun vbe G10 H10 F10 e10 d10 => ?_
          · obtain rfl : va = V.int a := da
            rw [map_at ha hb']
            have ab : a.natAbs ≤ 2 ^ 60 := by rw [← at_of ha]; exact cb i
            exact ev_I (ev_I (ev_var (x := a) rfl rfl) (ev_var rfl rfl) (cmul ab hib (by decide))) (ev_f2 OC (ev_var rfl (Den.mono (e9.trans e') hob8))) (by show 0 < ob.o.p; omega)
          have est : boSt ob.o.p tp ob.o.n (ob.o.n - 1 - t) (fo, rest) = (fo ++ [c.map fun x => x * inv (at_ c (ob.o.n - 1 - t)) ob.o.p % ob.o.p], rest.map fun row => tab ob.o.n fun k => (at_ row k - at_ row (ob.o.n - 1 - t) * at_ (c.map fun x => x * inv (at_ c (ob.o.n - 1 - t)) ob.o.p % ob.o.p) k) % ob.o.p) := by unfold boSt; dsimp only; rw [hc]
          rw [est]
          have lbe : (c.map fun x => x * inv (at_ c (ob.o.n - 1 - t)) ob.o.p % ob.o.p).length = ob.o.n := by simp [cl]
          have bbe : Bn 6 (c.map fun x => x * inv (at_ c (ob.o.n - 1 - t)) ob.o.p % ob.o.p) := fun k => by
            rw [at_map _ _ (by simp)]; exact mod_sz (by omega) (by omega)
          generalize (c.map fun x => x * inv (at_ c (ob.o.n - 1 - t)) ob.o.p % ob.o.p) = be at *
          refine st_app F10 rfl (x := be) (ev_var rfl d10) (by omega) fun v11 G11 H11 F11 e11 d11 => ?_
          have dvr11 := Den.mono (((e8.trans e9).trans e10).trans e11) dvr6
          have d11' := Den.mono e11 d10
          have hob11 := Den.mono F11.s.g hob
          refine st_set F11 (EvL.ev (el_lc (xs := rest) (ys := rest.map fun row => tab ob.o.n fun k => (at_ row k - at_ row (ob.o.n - 1 - t) * at_ be k) % ob.o.p) (ev_var rfl dvr11) (by simp) (by omega) fun i a b va G' e' ha hb' da => tn_name rfl (EvL.ev (el_lcR (n := (ob.o.n : Int)) (ys := b) (ea_cons (ev_var rfl rfl) ea_nil) (by rw [map_at ha hb', len_tab]; simp) (by omega) (by omega) (fun _ => rfl) fun j z G'' e'' hz => ?_)))) fun v12 G12 H12 F12 e12 d12 => ?_
          · rw [map_at ha hb'] at hz
            obtain ⟨hj, rfl⟩ := range_at hz
            obtain ⟨al, ab⟩ := hr2 a (List.mem_iff_getElem?.mpr ⟨i, ha⟩)
            exact ev_I (ev_I0 (ev_ixI (k := j) (ev_var rfl (Den.mono e'' da)) (ev_var (x := (j : Int)) rfl rfl) rfl (by omega)) (ev_I (ev_ixI (k := ob.o.n - 1 - t) (ev_var rfl (Den.mono e'' da)) (ev_var (x := ((ob.o.n - 1 - t : Nat) : Int)) rfl rfl) rfl (by omega)) (ev_ixI (k := j) (ev_var rfl (Den.mono (e'.trans e'') d11')) (ev_var (x := (j : Int)) rfl rfl) rfl (by omega)) (cmul (a := 60) (b := 6) (ab _) (bbe j) (by decide)))) (ev_f2 OC (ev_var rfl (Den.mono (e'.trans e'') hob11))) (by show 0 < ob.o.p; omega)
          · refine ⟨G12, vs ++ [v11], v12, _, _, _, _, _, _, F12, Paired.app (Paired.imp (fun _ _ z => Den.mono ((((e8.trans e9).trans e10).trans e11).trans e12) z) hvs6) (.cons (Den.mono e12 d11) .nil), by simp [hlt], d12, by simp; exact hlen, fun r hr => ?_, rfl⟩
            obtain ⟨a, _, rfl⟩ := List.mem_map.mp hr
            refine ⟨len_tab _ _, fun k => ?_⟩
            rw [at_tab]
            split
            · exact mod_sz (by omega) (by omega)
            · exact Nat.zero_le _
  · rintro σ H4 ⟨G4, vs, vr, row, d, bs4, bk, nu, k, F4, hvs, hlt, dvr, hlen, hr2, rfl⟩
    exact st_ret F4 (EvL.ev (el_listRevo rfl List.mem_cons_self hvs)) fun v G5 H5 s5 d5 => q v G5 H5 s5 d5
/-! ### Order.by_ideal -/
abbrev s_m_by_ideal : Stmt := inClass (top 46) 8
theorem sc_m_by_ideal : FnScope ["self", "ideal", "row", "rest", "found", "d", "k"] ["self", "ideal", "row"] (defScope s_m_by_ideal) := ⟨rfl, rfl, rfl, by decide +kernel, rfl, by decide +kernel, by decide +kernel⟩
  -- slots 0:self 1:ideal 2:row 3:rest 4:found 5:d 6:k
structure IdO (ideal : LL) (n : Nat) : Prop where
  len : ideal.length = n
  rs : ∀ r ∈ ideal, r.length = n ∧ Bn 60 r
  dg : ∀ d, d < n → 0 < ent ideal d d ∧ ent ideal d d ≤ 47
def BiPre {C : Addr} (x : Ob C × LL × L × Unit) : Prop := IdO x.2.1 x.2.2.1.length ∧ x.2.2.1.length ≤ 20 ∧ Bn 600000 x.2.2.1
abbrev sp_m_by_ideal (C : Addr) : Sp := SpF BiPre fun x : Ob C × LL × L × Unit => bi x.2.1 x.2.2.1
theorem ok_m_by_ideal (T : Tx mg) (OC : Oc K mg C)  {f : Addr} {fd : FuncData} (F : Fun K "by_ideal" "Order.by_ideal" s_m_by_ideal f fd) : FnOk P w K mg base CX0 1 f fd ["self", "ideal", "row"] (sp_m_by_ideal C) := by
  refine F.ok sc_m_by_ideal (fun vs H Q E h => SpF.len h) (fun cdv A outer s H vs Q E hr h => ?_)
  obtain ⟨G, ⟨ob, id, row, _⟩, e, ⟨u, _, rfl, hob, v, _, rfl, hid, v2, _, rfl, hrow, rfl⟩, ⟨hI, l20, br⟩, q⟩ := h
  dsimp only at hob hid hrow q hI l20 br
  
  refine ⟨_, (pss_cons (ps_set (i := 3) sc_m_by_ideal.nd rfl (Or.inr rfl) (pe_callTy (listK (K := K)) (by rfl) T.b_list (by decide +kernel) (pa_cons (pv 2) pa_nil)))
      (pss_cons (ps_set (i := 4) sc_m_by_ideal.nd rfl (Or.inr rfl) (pe_op op_rep (pe_lst (pa_cons pe_int pa_nil)) (pe_callB (lenK (K := K)) (by rfl) T.b_len PySem.boot_len (pa_cons (pv 3) pa_nil))))
      (pss_cons (ps_for PassesOwn.never rfl (pi_range3 rfl T.b_range (pa_cons (pe_op op_sub (pe_callB (lenK (K := K)) (by rfl) T.b_len PySem.boot_len (pa_cons (pv 3) pa_nil)) pe_int) (pa_cons (pe_un un_neg pe_int) (pa_cons (pe_un un_neg pe_int) pa_nil)))) (pg_name (i := 5) sc_m_by_ideal.nd rfl (Or.inr rfl)) (pss_cons (ps_asg (pe_op op_fdivZ (pe_ix (ixL (K := K)) (pv 3) (pv 5) (fun _ _ => rfl)) (pe_ix (ixL (K := K)) (pe_ix (ixL (K := K)) (pv 1) (pv 5) (fun _ _ => rfl)) (pv 5) (fun _ _ => rfl))) (pg_sub (pv 4) (pv 5) set_list))
      (pss_one (ps_set (i := 3) sc_m_by_ideal.nd rfl (Or.inr rfl) (pe_lc (own := [("k", 6)]) (tt := tYes) rfl sc_m_by_ideal.nd (pi_range1 rfl T.b_range (pa_cons (pe_callB (lenK (K := K)) (by rfl) T.b_len PySem.boot_len (pa_cons (pv 3) pa_nil)) pa_nil)) (blkOk_by (N := ["self", "ideal", "row", "rest", "found", "d", "k"]) (sc := defScope s_m_by_ideal) (by decide +kernel)) (fun _ _ _ _ _ => (pg_name (i := 6) sc_m_by_ideal.nd rfl (Or.inl rfl))) (fun _ _ _ _ _ => pts_nil) (fun _ _ _ _ _ => (pe_op op_sub (pe_ix (ixL (K := K)) (pv 3) (pv 6) (fun _ _ => rfl)) (pe_op op_mulW (pe_ix (ixL (K := K)) (pv 4) (pv 5) (fun _ _ => rfl)) (pe_ix (ixL (K := K)) (pe_ix (ixL (K := K)) (pv 1) (pv 5) (fun _ _ => rfl)) (pv 6) (fun _ _ => rfl))))))))))
      (pss_one (ps_ret (pv 4)))))), ?_⟩
  have F0 := Fr.start e
  refine st_set F0 (EvL.ev (el_list (ev_var rfl hrow))) fun vr G1 H1 F1 e1 d1 => ?_
  refine st_setLI F1 (el_rep (el_one (ev_int (i := 0))) (ev_len (ev_var rfl d1)) (by omega) (by omega)) fun fo G2 H2 F2 e2 => ?_
  have ez : List.replicate (((row.length : Nat) : Int)).toNat (0 : Int) = zeros row.length := by
    rw [zeros_eq]; congr 1
  rw [ez] at F2
  refine st_for3 (m := row.length) F2 (ea_cons (ev_I0 (ev_len (ev_var rfl (Den.mono e2 d1))) ev_int) (ea_cons (ev_neg ev_int) (ea_cons (ev_neg ev_int) ea_nil))) (by omega)
    (fun t σ H' => ∃ G' vr d k, (biN id row t).1.length = row.length ∧ (biN id row t).2.length = row.length ∧ Bn (600000 + t * 61) (biN id row t).1 ∧ Fr G H G' ((fo, (biN id row t).2.map V.int) :: []) H' ∧ Den.D G' vr (biN id row t).1 ∧
      σ = [some u, some v, some v2, some vr, some (.ref fo), d, k])
    (fun G3 H3 F3 e3 => ⟨G3, vr, none, none, rfl, len_zeros _, fun k => by rw [Nat.zero_mul, Nat.add_zero]; exact br k, F3, Den.mono (e2.trans e3) d1, rfl⟩) ?_ ?_
  · rintro t σ H3 ht ⟨G3, vr, d, k, lr, lf, rb, F3, dr, rfl⟩
    have e : biN id row (t + 1) = biSt id (row.length - 1 - t) (biN id row t) := rfl
    rw [e]
    generalize biN id row t = st at *
    obtain ⟨rest, found⟩ := st
    dsimp only at lr lf rb F3 dr
    have hd : row.length - 1 - t < row.length := by omega
    have hid3 := Den.mono F3.s.g hid
    have gl : row.length - 1 - t < id.length := by rw [hI.len]; exact hd
    obtain ⟨il, ib⟩ := hI.rs _ (getD_mem gl)
    obtain ⟨g0, g1⟩ := hI.dg _ hd
    refine st_setIx F3 rfl (x := at_ rest (row.length - 1 - t) / ent id (row.length - 1 - t) (row.length - 1 - t)) ((ev_I (ev_ixI (k := row.length - 1 - t) (ev_var rfl dr) (ev_var (x := ((row.length - 1 - t : Nat) : Int)) rfl rfl) rfl (by omega)) (ev_ixI (k := row.length - 1 - t) (ev_ix (k := row.length - 1 - t) (ev_var rfl hid3) (ev_var (x := ((row.length - 1 - t : Nat) : Int)) rfl rfl) rfl (getD_at gl)) (ev_var (x := ((row.length - 1 - t : Nat) : Int)) rfl rfl) rfl (by omega)) (cdivS (j := ent id (row.length - 1 - t) (row.length - 1 - t)) (by omega) (by omega))).cast (fdivE (show 0 ≤ ent id (row.length - 1 - t) (row.length - 1 - t) by omega))) (ev_var (x := ((row.length - 1 - t : Nat) : Int)) rfl rfl) rfl (by rw [List.length_map]; omega) fun u4 G4 H4 F4 e4 d4 => ?_
    obtain rfl : u4 = V.int _ := d4
    rw [← List.map_set] at F4
    have hqb : (at_ rest (row.length - 1 - t) / ent id (row.length - 1 - t) (row.length - 1 - t)).natAbs ≤ 2 ^ (600000 + t * 61) := Nat.le_trans (Int.natAbs_ediv_le_natAbs _ _) (rb _)
    unfold biSt
    dsimp only
    generalize hX : at_ rest (row.length - 1 - t) / ent id (row.length - 1 - t) (row.length - 1 - t) = xx at *
    have ht20 : t * 61 ≤ 1220 := by omega
    have dr4 := Den.mono e4 dr
    have hid4 := Den.mono e4 hid3
    refine st_set F4 (EvL.ev (el_lcR (n := ((rest.length : Nat) : Int)) (ys := tab rest.length (fun k => at_ rest k - xx * ent id (row.length - 1 - t) k)) (ea_cons (ev_len (ev_var rfl dr4)) ea_nil) (by rw [len_tab]; simp) (by omega) (by omega) (fun _ => rfl) fun j y' G'' e'' hy' => ?_)) fun v9 G9 H9 F9 e9 d9 => ?_
    · obtain ⟨hj, rfl⟩ := range_at hy'
      refine ev_I0 (ev_ixI (k := j) (ev_var rfl (Den.mono e'' dr4)) (ev_var rfl rfl) rfl hj) (ev_I ((ev_ixoI (k := row.length - 1 - t) rfl List.mem_cons_self (ev_var (x := ((row.length - 1 - t : Nat) : Int)) rfl rfl) rfl (by rw [List.length_set]; omega)).cast (y := xx) ?_) (ev_ixI (k := j) (ev_ix (k := row.length - 1 - t) (ev_var rfl (Den.mono e'' hid4)) (ev_var (x := ((row.length - 1 - t : Nat) : Int)) rfl rfl) rfl (getD_at gl)) (ev_var (x := (j : Int)) rfl rfl) rfl (by omega)) (cmul (b := 60) hqb (ib j) (by omega)))
      show at_ (found.set _ _) _ = _
      rw [at_set, if_pos ⟨rfl, by omega⟩]
    refine ⟨G9, v9, _, _, ?_, ?_, ?_, F9, d9, rfl⟩
    · rw [len_tab]; exact lr
    · rw [List.length_set]; exact lf
    · intro j
      rw [at_tab]
      split
      · have e9 : 600000 + (t + 1) * 61 = 600000 + t * 61 + 60 + 1 := by omega
        rw [e9]
        exact natAbs_sub_le (Nat.le_trans (rb j) (Nat.pow_le_pow_right (by decide) (by omega))) (natAbs_mul_le hqb (ib j))
      · exact Nat.zero_le _
  · rintro σ H3 ⟨G3, vr, d, k, lr, lf, rb, F3, dr, rfl⟩
    exact st_reto F3 rfl (xs := bi id row) (d_intsV _) fun v G6 H6 s6 d6 => q v G6 H6 s6 d6
end
end Bw
set_option Elab.async false
set_option linter.all false
set_option maxRecDepth 100000
set_option maxHeartbeats 4000000
namespace Bw
open PySem L2 Bd
theorem raised_rows {o : Od} (h : OPre o) {k : Nat} (hk : 0 < k) : ((Bd.units o.n).map fun u => o.raised u k).length = o.n ∧ ∀ r ∈ (Bd.units o.n).map fun u => o.raised u k, r.length = o.n := by
  refine ⟨by rw [List.length_map, len_units], fun r hr => ?_⟩
  obtain ⟨u, hu, rfl⟩ := List.mem_map.mp hr
  obtain ⟨i, hi⟩ := List.mem_iff_getElem?.mp hu
  obtain ⟨_, rfl⟩ := units_at hi
  exact raised_len h (len_unit _ _) hk
theorem oftenI {o : Od} (h : OPre o) : 0 < o.often ∧ o.often ≤ 10000 := by
  obtain ⟨p2, p47⟩ := h.pp
  have n1 := h.n1
  have key : ∀ (k : Nat) (q : Int), 0 < q → q ≤ 1000 → 0 < oftenF o.p o.rows.length k q ∧ oftenF o.p o.rows.length k q ≤ 1000 := by
    intro k
    induction k with
    | zero => intro q h1 h2; exact ⟨h1, h2⟩
    | succ k ih =>
      intro q h1 h2
      unfold oftenF
      split
      · rename_i hq
        rw [h.rl] at hq
        have h3 : q * o.p ≤ 19 * 47 := Int.mul_le_mul (by omega) p47 (by omega) (by omega)
        have h4 : 0 < q * o.p := Int.mul_pos h1 (by omega)
        exact ih _ h4 (by omega)
      · exact ⟨h1, h2⟩
  have := key o.rows.length o.p (by omega) (by omega)
  unfold Od.often
  omega
theorem len_timesP (n : Nat) (p : Int) : (timesP n p).length = n := by unfold timesP; rw [List.length_map, len_units]
section
variable {K : PySem.W.Frag} {σ : L2.St} {G0 H0 G H : Hp} {L : Ls} {D' : Ends}
/-- xs.extend(e), an own list -/
theorem st_ext {α : Type} [Den α] {te : TE} {j : Nat} {l : Addr} {vs : List V} {xs : List α} (F : Fr G0 H0 G ((l, vs) :: L) H) (hs : σ[j]? = some (some (.ref l))) (h : Ev te σ G ((l, vs) :: L) xs) (hl : vs.length + xs.length < 100000)
    (q : ∀ ws G2 H2, Fr G0 H0 G2 ((l, vs ++ ws) :: L) H2 → Same G G2 → Paired (Den.D G2) ws xs → D'.nx σ H2) : tDrop (tBM K "list" rExtend (tVar j) (tCons te tNil)) D' σ H :=
  ⟨_, hs, .inl ⟨rfl, _, SqL.of (F.o.l _ List.mem_cons_self).2⟩, h G H (Same.refl _) F.o _ fun v G2 H2 s2 d2 => by
    obtain ⟨a, ws, rfl, h1, h2⟩ := d2
    have F2 := F.step s2
    have hz : (100000 : Nat) ≤ sizeLine := by decide
    exact ⟨l, a, vs, ws, rfl, rfl, (F2.o.l _ List.mem_cons_self).2, s2.i _ _ h1, by rw [Paired.len h2]; omega, q ws G2 _ F2.upd s2.g h2⟩⟩
end
section
variable {P : Program} {w : World} {K : PySem.W.Frag} {mg : Str → Option Value} {base : Heap} {C : Addr}
/-! ### Order.radical -/
abbrev s_m_radical : Stmt := inClass (top 46) 6
theorem sc_m_radical : FnScope ["self", "many", "often", "some", "times_p", "one", "number"] ["self"] (defScope s_m_radical) := ⟨rfl, rfl, rfl, by decide +kernel, rfl, by decide +kernel, by decide +kernel⟩
  -- slots 0:self 1:many 2:often 3:some 4:times_p 5:one 6:number
def RdPre {C : Addr} (x : Ob C × Unit) : Prop := OPre x.1.o
abbrev sp_m_radical (C : Addr) : Sp := SpF RdPre fun x : Ob C × Unit => x.1.o.ideal
theorem ok_m_radical (T : Tx mg) (OC : Oc K mg C) (D_m_basis_of : Dm P w K mg base C "basis_of" 2 ["self", "some", "times_p"] (sp_m_basis_of C)) (D_m_units : Dm P w K mg base C "units" 1 ["self"] (sp_m_units C)) (D_kernel : Df P w K mg base "kernel" 3 ["table", "wide", "p"] sp_kernel) (D_m_raised : Dm P w K mg base C "raised" 6 ["self", "one", "often"] (sp_m_raised C)) {f : Addr} {fd : FuncData} (F : Fun K "radical" "Order.radical" s_m_radical f fd) : FnOk P w K mg base CX0 7 f fd ["self"] (sp_m_radical C) := by
  refine F.ok sc_m_radical (fun vs H Q E h => SpF.len h) (fun cdv A outer s H vs Q E hr h => ?_)
  obtain ⟨G, ⟨ob, _⟩, e, ⟨u, _, rfl, hob, rfl⟩, hO, q⟩ := h
  have hO : OPre ob.o := hO
  dsimp only at hob q
  obtain ⟨f_m_basis_of, fd_m_basis_of, g_m_basis_of, me_m_basis_of, b_m_basis_of⟩ := D_m_basis_of
  have hr_m_basis_of : Room 2 _ := hr.mono (by decide)
  obtain ⟨f_m_units, fd_m_units, g_m_units, me_m_units, b_m_units⟩ := D_m_units
  have hr_m_units : Room 1 _ := hr.mono (by decide)
  obtain ⟨f_kernel, fd_kernel, g_kernel, m_kernel, k_kernel, b_kernel⟩ := D_kernel
  have hr_kernel : Room 3 _ := hr.mono (by decide)
  obtain ⟨f_m_raised, fd_m_raised, g_m_raised, me_m_raised, b_m_raised⟩ := D_m_raised
  have hr_m_raised : Room 6 _ := hr.mono (by decide)
  refine ⟨_, (pss_cons (ps_set (i := 1) sc_m_radical.nd rfl (Or.inl rfl) (pe_callB (lenK (K := K)) (by rfl) T.b_len PySem.boot_len (pa_cons (pe_fldK (K := K) (pv 0) rfl) pa_nil)))
      (pss_cons (ps_set (i := 2) sc_m_radical.nd rfl (Or.inr rfl) (pe_fldK (K := K) (pv 0) rfl))
      (pss_cons (ps_while PassesOwn.never (pt_cmpR op_lt (pv 2) (pv 1) (nomark _)) (pss_one (ps_set (i := 2) sc_m_radical.nd rfl (Or.inr rfl) (pe_op op_mulW (pv 2) (pe_fldK (K := K) (pv 0) rfl)))))
      (pss_cons (ps_set (i := 3) sc_m_radical.nd rfl (Or.inl rfl) (pe_call g_kernel hr_kernel rfl m_kernel k_kernel b_kernel .nil pass0 (pa_cons (pe_lc (own := [("one", 5)]) (tt := tYes) rfl sc_m_radical.nd (pi_listK (K := K) (pe_meth0 (pv 0) OC.cl me_m_units g_m_units hr_m_units b_m_units .nil pass0)) (blkOk_by (N := ["self", "many", "often", "some", "times_p", "one", "number"]) (sc := defScope s_m_radical) (by decide +kernel)) (fun _ _ _ _ _ => (pg_name (i := 5) sc_m_radical.nd rfl (Or.inl rfl))) (fun _ _ _ _ _ => pts_nil) (fun _ _ _ _ _ => (pe_meth (pv 0) OC.cl me_m_raised g_m_raised hr_m_raised b_m_raised .nil pass0 (pa_cons (pv 5) (pa_cons (pv 2) pa_nil))))) (pa_cons (pv 1) (pa_cons (pe_fldK (K := K) (pv 0) rfl) pa_nil)))))
      (pss_cons (ps_setLc (i := 4) (own := [("one", 5)]) (tt := tYes) rfl sc_m_radical.nd rfl rfl (sw_true rfl rfl rfl (by decide +kernel)) (pi_listK (K := K) (pe_meth0 (pv 0) OC.cl me_m_units g_m_units hr_m_units b_m_units .nil pass0)) (blkOk_by (N := ["self", "many", "often", "some", "times_p", "one", "number"]) (sc := defScope s_m_radical) (by decide +kernel)) (fun _ _ _ _ _ => (pg_name (i := 5) sc_m_radical.nd rfl (Or.inl rfl))) (fun _ _ _ _ _ => pts_nil) (fun _ _ _ _ _ => (pe_lc (own := [("number", 6)]) (tt := tYes) rfl sc_m_radical.nd (pi_listK (K := K) (pv 5)) (blkOk_by (by rfl)) (fun _ _ _ _ _ => (pg_name (i := 6) sc_m_radical.nd rfl (Or.inl rfl))) (fun _ _ _ _ _ => pts_nil) (fun _ _ _ _ _ => (pe_op op_mulW (pe_fldK (K := K) (pv 0) rfl) (pv 6))))))
      (pss_one (ps_ret (pe_meth (pv 0) OC.cl me_m_basis_of g_m_basis_of hr_m_basis_of b_m_basis_of .nil pass0 (pa_cons (pv 3) (pa_cons (pv 4) pa_nil)))))))))), ?_⟩
  have F0 := Fr.start e
  have n1 := hO.n1
  have rl := hO.rl
  obtain ⟨p2, p47⟩ := hO.pp
  obtain ⟨qn, PR, ep⟩ := hO.pr
  refine st_setI F0 ((ev_len (ev_f5 OC (ev_var rfl hob))).cast (y := (ob.o.n : Int)) (by rw [rl])) fun G1 H1 F1 e1 => ?_
  refine st_setI F1 (ev_f2 OC (ev_var rfl (Den.mono e1 hob))) fun G2 H2 F2 e2 => ?_
  refine st_seq ?_
  refine st_while (G0 := G) (H0 := H) (fun m σ H' => ∃ G' q, Fr G H G' [] H' ∧ σ = [some u, some (.int (ob.o.n : Int)), some (.int q), none, none, none, none] ∧ 0 < q ∧ q ≤ 1000 ∧ (ob.o.n : Int) ≤ q + m ∧ oftenF ob.o.p ob.o.n m q = ob.o.often) ob.o.n ⟨G2, ob.o.p, F2, rfl, by omega, by omega, by omega, by unfold Od.often; rw [rl]⟩ ?_
  rintro m σ H3 ⟨G3, qq, F3, rfl, q0, q1, qm, hq⟩
  refine ⟨G3, [], _, F3, et_test (ev_B0 (ev_var (x := qq) rfl rfl) (ev_var (x := (ob.o.n : Int)) rfl rfl)), fun hb G4 H4 F4 e4 => ?_, fun hb G4 H4 F4 e4 => ?_⟩
  · have hb : qq < (ob.o.n : Int) := of_decide_eq_true hb
    obtain ⟨m', rfl⟩ : ∃ m', m = m' + 1 := ⟨m - 1, by omega⟩
    have h3 : qq * ob.o.p ≤ 19 * 47 := Int.mul_le_mul (by omega) p47 (by omega) (by omega)
    have h4 : qq * 2 ≤ qq * ob.o.p := Int.mul_le_mul_of_nonneg_left p2 (by omega)
    refine st_setI F4 (ev_I (ev_var (x := qq) rfl rfl) (ev_f2 OC (ev_var rfl (Den.mono F4.s.g hob))) (cmul (a := 10) (b := 10) (by omega) (by omega) (by decide))) fun G5 H5 F5 e5 => ?_
    refine ⟨m', by omega, G5, qq * ob.o.p, F5, rfl, by omega, by omega, by omega, ?_⟩
    rw [← hq]
    show _ = (if qq < _ then _ else _)
    rw [if_pos hb]
  · have hb : ¬ qq < (ob.o.n : Int) := of_decide_eq_false hb
    rw [oftenF_ge hb] at hq
    have hob4 := Den.mono F4.s.g hob
    obtain ⟨rr1, rr2⟩ := raised_rows hO (k := qq.toNat) (by omega)
    have hwid : ∀ i, i < ob.o.n → (((Bd.units ob.o.n).map fun u => ob.o.raised u qq.toNat).getD i []).length = ob.o.n := fun i hi => rr2 _ (getD_mem (by rw [rr1]; exact hi))
    refine st_seq (st_set F4 (ev_call (Pre := KePre) (F := fun x : LL × Int × Int × Unit => ker x.1 x.2.1.toNat x.2.2.1) (x := ((Bd.units ob.o.n).map fun u => ob.o.raised u qq.toNat, (ob.o.n : Int), ob.o.p, ())) (ea_cons (EvL.ev (el_lc (xs := Bd.units ob.o.n) (ys := (Bd.units ob.o.n).map fun u => ob.o.raised u qq.toNat) ((ev_meth (Pre := UnPre) (F := fun x : Ob C × Unit => Bd.units x.1.o.rows.length) (x := ()) nf_units (ev_var rfl hob4) ea_nil hO).cast (by show Bd.units ob.o.rows.length = _; rw [rl])) (by simp) (by rw [len_units]; omega) fun i a b va G' e' ha hb' da => tn_name rfl ?_))
      (ea_cons (ev_var rfl rfl) (ea_cons (ev_f2 OC (ev_var rfl hob4)) ea_nil))) ⟨by dsimp only; rw [rr1]; omega, by dsimp only; omega, by dsimp only; omega, fun r hr => by dsimp only; rw [rr2 r hr]; simp, qn, PR, ep, by omega⟩) fun v5 G5 H5 F5 e5 d5 => ?_)
    · obtain ⟨_, rfl⟩ := units_at ha
      rw [map_at ha hb']
      exact ev_meth (Pre := RaPre) (F := fun x : Ob C × L × Int × Unit => x.1.o.raised x.2.1 x.2.2.1.toNat) (x := (Bd.unit ob.o.n i, qq, ())) nf_raised (ev_var rfl (Den.mono e' hob4)) (ea_cons (ev_var rfl da) (ea_cons (ev_var (x := qq) rfl rfl) ea_nil)) ⟨hO, len_unit _ _, bn_unit _ _, q0, by dsimp only; omega⟩
    have d5 : Den.D G5 v5 (ker ((Bd.units ob.o.n).map fun u => ob.o.raised u qq.toNat) ((ob.o.n : Int)).toNat ob.o.p) := d5
    have es : ker ((Bd.units ob.o.n).map fun u => ob.o.raised u qq.toNat) ((ob.o.n : Int)).toNat ob.o.p = ob.o.some1 := by
      unfold Od.some1; rw [rl, ← hq]; simp
    rw [es] at d5
    have ks : (ob.o.some1).length ≤ ob.o.n ∧ ∀ r ∈ ob.o.some1, r.length = ob.o.n ∧ Bn 60 r := by
      rw [← es, ep]
      exact ⟨ker_len PR rr1 hwid, ker_rows PR (by omega) rr1 hwid⟩
    have hob5 := Den.mono e5 hob4
    refine st_seq (st_set F5 (EvL.ev (el_lc (xs := Bd.units ob.o.n) (ys := timesP ob.o.n ob.o.p) ((ev_meth (Pre := UnPre) (F := fun x : Ob C × Unit => Bd.units x.1.o.rows.length) (x := ()) nf_units (ev_var rfl hob5) ea_nil hO).cast (by show Bd.units ob.o.rows.length = _; rw [rl])) (by rw [len_timesP, len_units]) (by rw [len_units]; omega) fun i a b va G' e' ha hb' da => tn_name rfl (EvL.ev (el_lc (xs := a) (ys := b) (ev_var rfl da) ?_ ?_ fun j z y v' G'' e'' hz hy dz => tn_name rfl ?_)))) fun v6 G6 H6 F6 e6 d6 => ?_)
    · rw [map_at ha hb', List.length_map]
    · rw [(units_at ha).2, len_unit]; omega
    · obtain rfl : v' = V.int z := dz
      rw [map_at ha hb'] at hy
      rw [map_at hz hy]
      have hu := (units_at ha).2
      have hzb : z.natAbs ≤ 2 ^ 60 := by
        rw [← at_of hz, hu]; exact bn_unit _ _ _
      exact ev_I (ev_f2 OC (ev_var rfl (Den.mono (e'.trans e'') hob5))) (ev_var (x := z) rfl rfl) (cmul (a := 6) (by omega) hzb (by decide))
    refine st_ret F6 (ev_meth (Pre := BoPre) (F := fun x : Ob C × LL × LL × Unit => bo x.2.1 x.2.2.1 x.1.o.rows.length x.1.o.p) (x := (ob.o.some1, timesP ob.o.n ob.o.p, ())) nf_basis_of (ev_var rfl (Den.mono e6 hob5)) (ea_cons (ev_var rfl (Den.mono e6 d5)) (ea_cons (ev_var rfl d6) ea_nil)) ⟨hO, by dsimp only; omega, ks.2, len_timesP _ _⟩) fun v7 G7 H7 s7 d7 => q v7 G7 H7 s7 ?_
    have : ob.o.ideal = bo ob.o.some1 (timesP ob.o.n ob.o.p) ob.o.rows.length ob.o.p := by unfold Od.ideal; rw [rl]
    rw [this]; exact d7
/-! ### Order.greater -/
abbrev s_m_greater : Stmt := inClass (top 46) 9
theorem sc_m_greater : FnScope ["self", "ideal", "table", "one", "line", "other", "some", "rows", "more", "row", "number"] ["self"] (defScope s_m_greater) := ⟨rfl, rfl, rfl, by decide +kernel, rfl, by decide +kernel, by decide +kernel⟩
  -- slots 0:self 1:ideal 2:table 3:one 4:line 5:other 6:some 7:rows 8:more 9:row 10:number
structure GrPre {C : Addr} (x : Ob C × Unit) : Prop where
  o : OPre x.1.o
  id : IdO x.1.o.ideal x.1.o.n
abbrev sp_m_greater (C : Addr) : Sp := SpF GrPre fun x : Ob C × Unit => x.1.o.greater
theorem line_len {id : LL} {f : L → L} {n : Nat} (h : ∀ r ∈ id, (f r).length = n) : ((id.map f).flatten).length = id.length * n := by
  induction id with
  | nil => simp
  | cons r id ih =>
    rw [List.map_cons, List.flatten_cons, List.length_append, h r List.mem_cons_self, ih fun r hr => h r (List.mem_cons_of_mem _ hr), List.length_cons, Nat.succ_mul]; omega
theorem ok_m_greater (T : Tx mg) (OC : Oc K mg C) (D_triangular : Df P w K mg base "triangular" 3 ["rows", "n", "p", "most"] sp_triangular) (D_m_row_of : Dm P w K mg base C "row_of" 1 ["self", "numbers"] (sp_m_row_of C)) (D_kernel : Df P w K mg base "kernel" 3 ["table", "wide", "p"] sp_kernel) (D_m_units : Dm P w K mg base C "units" 1 ["self"] (sp_m_units C)) (D_m_by_ideal : Dm P w K mg base C "by_ideal" 1 ["self", "ideal", "row"] (sp_m_by_ideal C)) (D_m_product : Dm P w K mg base C "product" 4 ["self", "one", "other"] (sp_m_product C)) (D_m_radical : Dm P w K mg base C "radical" 7 ["self"] (sp_m_radical C)) {f : Addr} {fd : FuncData} (F : Fun K "greater" "Order.greater" s_m_greater f fd) : FnOk P w K mg base CX0 8 f fd ["self"] (sp_m_greater C) := by
  refine F.ok sc_m_greater (fun vs H Q E h => SpF.len h) (fun cdv A outer s H vs Q E hr h => ?_)
  obtain ⟨G, ⟨ob, _⟩, e, ⟨u, _, rfl, hob, rfl⟩, ⟨hO, hI⟩, q⟩ := h
  dsimp only at hob q hO hI
  obtain ⟨f_triangular, fd_triangular, g_triangular, m_triangular, k_triangular, b_triangular⟩ := D_triangular
  have hr_triangular : Room 3 _ := hr.mono (by decide)
  obtain ⟨f_m_row_of, fd_m_row_of, g_m_row_of, me_m_row_of, b_m_row_of⟩ := D_m_row_of
  have hr_m_row_of : Room 1 _ := hr.mono (by decide)
  obtain ⟨f_kernel, fd_kernel, g_kernel, m_kernel, k_kernel, b_kernel⟩ := D_kernel
  have hr_kernel : Room 3 _ := hr.mono (by decide)
  obtain ⟨f_m_units, fd_m_units, g_m_units, me_m_units, b_m_units⟩ := D_m_units
  have hr_m_units : Room 1 _ := hr.mono (by decide)
  obtain ⟨f_m_by_ideal, fd_m_by_ideal, g_m_by_ideal, me_m_by_ideal, b_m_by_ideal⟩ := D_m_by_ideal
  have hr_m_by_ideal : Room 1 _ := hr.mono (by decide)
  obtain ⟨f_m_product, fd_m_product, g_m_product, me_m_product, b_m_product⟩ := D_m_product
  have hr_m_product : Room 4 _ := hr.mono (by decide)
  obtain ⟨f_m_radical, fd_m_radical, g_m_radical, me_m_radical, b_m_radical⟩ := D_m_radical
  have hr_m_radical : Room 7 _ := hr.mono (by decide)
  refine ⟨_, (pss_cons (ps_set (i := 1) sc_m_greater.nd rfl (Or.inl rfl) (pe_meth0 (pv 0) OC.cl me_m_radical g_m_radical hr_m_radical b_m_radical .nil pass0))
      (pss_cons (ps_set (i := 2) sc_m_greater.nd rfl (Or.inl rfl) (pe_lst pa_nil))
      (pss_cons (ps_for PassesOwn.never rfl (pi_listK (K := K) (pe_meth0 (pv 0) OC.cl me_m_units g_m_units hr_m_units b_m_units .nil pass0)) (pg_name (i := 3) sc_m_greater.nd rfl (Or.inl rfl)) (pss_cons (ps_set (i := 4) sc_m_greater.nd rfl (Or.inl rfl) (pe_lst pa_nil))
      (pss_cons (ps_for PassesOwn.never rfl (pi_listK (K := K) (pv 1)) (pg_name (i := 5) sc_m_greater.nd rfl (Or.inl rfl)) (pss_one (ps_expr (pe_bm PySem.F.plainAttrs_list PySem.F.slot_list_extend PySem.F.type_list_extend mt_extend (pv 4) (pa_cons (pe_meth (pv 0) OC.cl me_m_by_ideal g_m_by_ideal hr_m_by_ideal b_m_by_ideal .nil pass0 (pa_cons (pv 1) (pa_cons (pe_meth (pv 0) OC.cl me_m_product g_m_product hr_m_product b_m_product .nil pass0 (pa_cons (pv 3) (pa_cons (pv 5) pa_nil))) pa_nil))) pa_nil)))))
      (pss_one (ps_expr (pe_bm PySem.F.plainAttrs_list PySem.F.slot_list_append PySem.F.type_list_append mt_append (pv 2) (pa_cons (pv 4) pa_nil)))))))
      (pss_cons (ps_set (i := 6) sc_m_greater.nd rfl (Or.inl rfl) (pe_call g_kernel hr_kernel rfl m_kernel k_kernel b_kernel .nil pass0 (pa_cons (pv 2) (pa_cons (pe_op op_mulW (pe_callB (lenK (K := K)) (by rfl) T.b_len PySem.boot_len (pa_cons (pv 1) pa_nil)) (pe_callB (lenK (K := K)) (by rfl) T.b_len PySem.boot_len (pa_cons (pv 1) pa_nil))) (pa_cons (pe_fldK (K := K) (pv 0) rfl) pa_nil)))))
      (pss_cons (ps_setLc (i := 7) (own := [("one", 3)]) (tt := tYes) rfl sc_m_greater.nd rfl rfl (sw_true rfl rfl rfl (by decide +kernel)) (pi_listK (K := K) (pv 6)) (blkOk_by (N := ["self", "ideal", "table", "one", "line", "other", "some", "rows", "more", "row", "number"]) (sc := defScope s_m_greater) (by decide +kernel)) (fun _ _ _ _ _ => (pg_name (i := 3) sc_m_greater.nd rfl (Or.inl rfl))) (fun _ _ _ _ _ => pts_nil) (fun _ _ _ _ _ => (pe_meth (pv 0) OC.cl me_m_row_of g_m_row_of hr_m_row_of b_m_row_of .nil pass0 (pa_cons (pv 3) pa_nil))))
      (pss_cons (ps_setLc (i := 8) (own := [("row", 9)]) (tt := tYes) rfl sc_m_greater.nd rfl rfl (sw_true rfl rfl rfl (by decide +kernel)) (pi_listK (K := K) (pe_fldK (K := K) (pv 0) rfl)) (blkOk_by (N := ["self", "ideal", "table", "one", "line", "other", "some", "rows", "more", "row", "number"]) (sc := defScope s_m_greater) (by decide +kernel)) (fun _ _ _ _ _ => (pg_name (i := 9) sc_m_greater.nd rfl (Or.inl rfl))) (fun _ _ _ _ _ => pts_nil) (fun _ _ _ _ _ => (pe_lc (own := [("number", 10)]) (tt := tYes) rfl sc_m_greater.nd (pi_listK (K := K) (pv 9)) (blkOk_by (by rfl)) (fun _ _ _ _ _ => (pg_name (i := 10) sc_m_greater.nd rfl (Or.inl rfl))) (fun _ _ _ _ _ => pts_nil) (fun _ _ _ _ _ => (pe_op op_mulW (pe_fldK (K := K) (pv 0) rfl) (pv 10))))))
      (pss_one (ps_ret (pe_call g_triangular hr_triangular rfl m_triangular k_triangular b_triangular .nil pass0 (pa_cons (pe_op op_cat (pv 7) (pv 8)) (pa_cons (pe_callB (lenK (K := K)) (by rfl) T.b_len PySem.boot_len (pa_cons (pe_fldK (K := K) (pv 0) rfl) pa_nil)) (pa_cons (pe_fldK (K := K) (pv 0) rfl) (pa_cons (pe_op op_add (pe_fldK (K := K) (pv 0) rfl) pe_int) pa_nil))))))))))))), ?_⟩
  have F0 := Fr.start e
  have n1 := hO.n1
  have rl := hO.rl
  obtain ⟨p2, p47⟩ := hO.pp
  obtain ⟨qn, PR, ep⟩ := hO.pr
  have lineL : ∀ one : L, one.length = ob.o.n → (ob.o.line one).length = ob.o.n * ob.o.n := fun one h1 => by
    unfold Od.line
    rw [line_len (n := ob.o.n) fun r hr => by rw [len_bi]; exact (hO.prod h1 (hI.rs r hr).1).2, hI.len]
  have hnn : ob.o.n * ob.o.n ≤ 361 := Nat.mul_le_mul n1 n1
  refine st_set F0 (ev_meth (Pre := RdPre) (F := fun x : Ob C × Unit => x.1.o.ideal) (x := ()) nf_radical (ev_var rfl hob) ea_nil hO) fun vi G1 H1 F1 e1 d1 => ?_
  have d1 : Den.D G1 vi ob.o.ideal := d1
  refine st_setL F1 (el_nil (α := L)) fun lt vs0 G2 H2 F2 e2 d0 => ?_
  cases d0
  have hob2 := Den.mono F2.s.g hob
  have d2 := Den.mono e2 d1
  refine st_seq ?_
  refine st_forX F2 (xs := Bd.units ob.o.n) ((ev_meth (Pre := UnPre) (F := fun x : Ob C × Unit => Bd.units x.1.o.rows.length) (x := ()) nf_units (ev_var rfl hob2) ea_nil hO).cast (by show Bd.units ob.o.rows.length = _; rw [rl])) (fun Gs i G' σ H' => Same Gs G' ∧ ∃ vs on ln ot, Fr G H G' ((lt, vs) :: []) H' ∧ Paired (Den.D G') vs (((Bd.units ob.o.n).take i).map ob.o.line) ∧ σ = [some u, some vi, some (.ref lt), on, ln, ot, none, none, none, none, none])
    (fun Gs i G' σ H' ⟨s1, vs, on, ln, ot, F', _⟩ => ⟨s1, F'.o.i⟩) (fun G3 H3 F3 e3 => ⟨Same.refl _, [], none, none, none, F3, .nil, rfl⟩) ?_ ?_
  · rintro Gs i one v G' σ H' eG hi dv ⟨s1, vs, on, ln, ot, F', hvs, rfl⟩
    have hil : i < ob.o.n := (units_at hi).1
    have hone := (units_at hi).2
    have ol : one.length = ob.o.n := by rw [hone, len_unit]
    have ob6 : Bn 60 one := by rw [hone]; exact bn_unit _ _
    have eG' := eG.trans s1
    have dv' := Den.mono s1 dv
    have d2' := Den.mono eG' d2
    refine st_seq (st_setL F' (el_nil (α := Int)) fun ll vs0 G4 H4 F4 e4 d0 => ?_)
    cases d0
    refine st_seq ?_
    refine st_forX F4 (ev_var rfl (Den.mono e4 d2')) (fun Gs j G' σ H' => Same Gs G' ∧ ∃ ot, Fr G H G' ((ll, (((ob.o.ideal.take j).map fun other => bi ob.o.ideal (ob.o.prod one other)).flatten).map V.int) :: (lt, vs) :: []) H' ∧ σ = [some u, some vi, some (.ref lt), some v, some (.ref ll), ot, none, none, none, none, none])
      (fun Gs i G' σ H' ⟨s1, ot, F', _⟩ => ⟨s1, F'.o.i⟩) (fun G5 H5 F5 e5 => ⟨Same.refl _, ot, F5, rfl⟩) ?_ ?_
    · rintro Gs5 j other vo G5 σ H5 eG5 hj dvo ⟨s5, ot5, F5, rfl⟩
      have hom : other ∈ ob.o.ideal := List.mem_iff_getElem?.mpr ⟨j, hj⟩
      have hjl : j < ob.o.ideal.length := (List.getElem?_eq_some_iff.mp hj).1
      obtain ⟨otl, otb⟩ := hI.rs _ hom
      have pl := (hO.prod ol otl).2
      have e45 := e4.trans (eG5.trans s5)
      have lflat : (((ob.o.ideal.take j).map fun other => bi ob.o.ideal (ob.o.prod one other)).flatten).length ≤ ob.o.n * ob.o.n := by
        rw [line_len (n := ob.o.n) fun r hr => by rw [len_bi]; exact (hO.prod ol (hI.rs r (List.mem_of_mem_take hr)).1).2, List.length_take]
        have := hI.len
        exact Nat.mul_le_mul_right _ (by omega)
      refine st_ext F5 rfl (ev_meth (Pre := BiPre) (F := fun x : Ob C × LL × L × Unit => bi x.2.1 x.2.2.1) (x := (ob.o.ideal, ob.o.prod one other, ())) nf_by_ideal (ev_var rfl (Den.mono (eG'.trans e45) hob2)) (ea_cons (ev_var rfl (Den.mono e45 d2')) (ea_cons (ev_meth (Pre := PrPre) (F := fun x : Ob C × L × L × Unit => x.1.o.prod x.2.1 x.2.2.1) (x := (one, other, ())) nf_product (ev_var rfl (Den.mono (eG'.trans e45) hob2)) (ea_cons (ev_var rfl (Den.mono e45 dv')) (ea_cons (ev_var rfl (Den.mono s5 dvo)) ea_nil)) ⟨hO, ol, otl, ob6, otb⟩) ea_nil)) ⟨by dsimp only; rw [pl]; exact hI, by dsimp only; omega, hO.prod_bn ol otl ob6 otb⟩) ?_ fun ws G6 H6 F6 e6 d6 => ?_
      · dsimp only; rw [List.length_map, len_bi, pl]; omega
      · rw [d_ints.mp d6] at F6
        refine ⟨G6, s5.trans e6, some vo, ?_, rfl⟩
        have : (((ob.o.ideal.take (j + 1)).map fun other => bi ob.o.ideal (ob.o.prod one other)).flatten) = (((ob.o.ideal.take j).map fun other => bi ob.o.ideal (ob.o.prod one other)).flatten) ++ bi ob.o.ideal (ob.o.prod one other) := by
          rw [List.take_add_one, hj]; simp
        rw [this, List.map_append]; exact F6
    · rintro Gs5 G5 σ H5 eG5 ⟨s5, ot5, F5, rfl⟩
      rw [List.take_of_length_le (Nat.le_refl _)] at F5
      obtain ⟨G6, F6, e6, d6⟩ := F5.frozen (d_intsV _)
      have e46 := (e4.trans (eG5.trans s5)).trans e6
      refine st_app F6 rfl (x := ob.o.line one) (ev_var rfl d6) ?_ fun v7 G7 H7 F7 e7 d7 => ?_
      · rw [Paired.len hvs, List.length_map, List.length_take]; omega
      · refine ⟨G7, s1.trans (e46.trans e7), vs ++ [v7], some v, some (.ref ll), ot5, F7, ?_, rfl⟩
        have : ((Bd.units ob.o.n).take (i + 1)).map ob.o.line = ((Bd.units ob.o.n).take i).map ob.o.line ++ [ob.o.line one] := by
          rw [List.take_add_one, hi]; simp
        rw [this]
        exact Paired.app (Paired.imp (fun _ _ z => Den.mono (e46.trans e7) z) hvs) (.cons d7 .nil)
  · rintro Gs G3 σ H3 eG ⟨s1, vs, on, ln, ot, F3, hvs, rfl⟩
    rw [List.take_of_length_le (Nat.le_refl _)] at hvs
    obtain ⟨G4, F4, e4, d4⟩ := F3.frozen hvs
    have e24 := (eG.trans s1).trans e4
    have hob4 := Den.mono e24 hob2
    have d24 := Den.mono e24 d2
    have tl : ((Bd.units ob.o.n).map ob.o.line).length = ob.o.n := by rw [List.length_map, len_units]
    have tw : ∀ r ∈ (Bd.units ob.o.n).map ob.o.line, r.length = ob.o.n * ob.o.n := by
      intro r hr
      obtain ⟨a, ha, rfl⟩ := List.mem_map.mp hr
      obtain ⟨i, hi⟩ := List.mem_iff_getElem?.mp ha
      obtain ⟨_, rfl⟩ := units_at hi
      exact lineL _ (len_unit _ _)
    have hwid : ∀ i, i < ob.o.n → (((Bd.units ob.o.n).map ob.o.line).getD i []).length = ob.o.n * ob.o.n := fun i hi => tw _ (getD_mem (by rw [tl]; exact hi))
    have eI : (ob.o.ideal.length : Int) * (ob.o.ideal.length : Int) = ((ob.o.n * ob.o.n : Nat) : Int) := by rw [hI.len]; simp
    refine st_seq (st_set F4 (ev_call (Pre := KePre) (F := fun x : LL × Int × Int × Unit => ker x.1 x.2.1.toNat x.2.2.1) (x := ((Bd.units ob.o.n).map ob.o.line, ((ob.o.n * ob.o.n : Nat) : Int), ob.o.p, ())) (ea_cons (ev_var rfl d4) (ea_cons ((ev_I (ev_len (ev_var rfl d24)) (ev_len (ev_var rfl d24)) (cmul (a := 10) (b := 10) (by rw [hI.len]; omega) (by rw [hI.len]; omega) (by decide))).cast eI) (ea_cons (ev_f2 OC (ev_var rfl hob4)) ea_nil)))
      ⟨by dsimp only; rw [tl]; omega, by dsimp only; omega, by dsimp only; omega, fun r hr => by dsimp only; rw [tw r hr]; exact (Int.toNat_natCast _).symm, qn, PR, ep, by omega⟩) fun v5 G5 H5 F5 e5 d5 => ?_)
    have d5 : Den.D G5 v5 (ker ((Bd.units ob.o.n).map ob.o.line) (((ob.o.n * ob.o.n : Nat) : Int)).toNat ob.o.p) := d5
    have es : ker ((Bd.units ob.o.n).map ob.o.line) (((ob.o.n * ob.o.n : Nat) : Int)).toNat ob.o.p = ob.o.some2 := by
      unfold Od.some2; rw [rl, hI.len, Int.toNat_natCast]
    rw [es] at d5
    have ks : (ob.o.some2).length ≤ ob.o.n ∧ ∀ r ∈ ob.o.some2, r.length = ob.o.n ∧ Bn 60 r := by
      rw [← es, ep]
      exact ⟨ker_len PR tl hwid, ker_rows PR (by omega) tl hwid⟩
    have hob5 := Den.mono e5 hob4
    refine st_seq (st_set F5 (EvL.ev (el_lc (xs := ob.o.some2) (ys := ob.o.some2.map fun one => rowOf ob.o.rows one) (ev_var rfl d5) (by simp) (by omega) fun i a b va G' e' ha hb' da => tn_name rfl ?_)) fun v6 G6 H6 F6 e6 d6 => ?_)
    · rw [map_at ha hb']
      obtain ⟨al, ab⟩ := ks.2 a (List.mem_iff_getElem?.mpr ⟨i, ha⟩)
      exact ev_meth (Pre := RoPre) (F := fun x : Ob C × L × Unit => rowOf x.1.o.rows x.2.1) (x := (a, ())) nf_row_of (ev_var rfl (Den.mono e' hob5)) (ea_cons (ev_var rfl da) ea_nil) ⟨hO, al, ab⟩
    have hob6 := Den.mono e6 hob5
    refine st_seq (st_set F6 (EvL.ev (el_lc (xs := ob.o.rows) (ys := ob.o.rows.map fun row => row.map (ob.o.p * ·)) (ev_f5 OC (ev_var rfl hob6)) (by simp) (by omega) fun i a b va G' e' ha hb' da => tn_name rfl (EvL.ev (el_lc (xs := a) (ys := b) (ev_var rfl da) ?_ ?_ fun j z y v' G'' e'' hz hy dz => tn_name rfl ?_)))) fun v7 G7 H7 F7 e7 d7 => ?_)
    · rw [map_at ha hb', List.length_map]
    · rw [(hO.rw a (List.mem_iff_getElem?.mpr ⟨i, ha⟩)).1]; omega
    · obtain rfl : v' = V.int z := dz
      rw [map_at ha hb'] at hy
      rw [map_at hz hy]
      have hzb : z.natAbs ≤ 2 ^ 12000 := by rw [← at_of hz]; exact (hO.rw a (List.mem_iff_getElem?.mpr ⟨i, ha⟩)).2 j
      exact ev_I (ev_f2 OC (ev_var rfl (Den.mono (e'.trans e'') hob6))) (ev_var (x := z) rfl rfl) (cmul (a := 6) (by omega) hzb (by decide))
    have hob7 := Den.mono e7 hob6
    have hrr : ∀ r ∈ ob.o.rows, r.length = ob.o.rows.length ∧ Bn 12000 r := fun r hr => by rw [hO.rl]; exact hO.rw r hr
    refine st_ret F7 ((ev_call (Pre := TrPre) (F := fun x : LL × Int × Int × Int × Unit => tri x.1 x.2.1.toNat x.2.2.1 x.2.2.2.1) (x := ((ob.o.some2.map fun one => rowOf ob.o.rows one) ++ ob.o.rows.map fun row => row.map (ob.o.p * ·), (ob.o.rows.length : Int), ob.o.p, ob.o.most + 1, ())) (ea_cons (EvL.ev (el_cat (ev_var rfl (Den.mono e7 d6)) (ev_var rfl d7) ?_)) (ea_cons (ev_len (ev_f5 OC (ev_var rfl hob7))) (ea_cons (ev_f2 OC (ev_var rfl hob7)) (ea_cons (ev_I0 (ev_f4 OC (ev_var rfl hob7)) (ev_int (i := 1))) ea_nil)))) ⟨?_, ?_, ?_, p2, p47, ?_, ?_, fun r hr => ?_⟩)) fun v8 G8 H8 s8 d8 => q v8 G8 H8 s8 ?_
    · rw [List.length_map, List.length_map]; omega
    · dsimp only; rw [List.length_append, List.length_map, List.length_map]; omega
    · dsimp only; omega
    · dsimp only; omega
    · dsimp only; have := hO.m0; omega
    · dsimp only; have := hO.m1; omega
    · dsimp only at hr ⊢
      rw [Int.toNat_natCast, rl]
      rcases List.mem_append.mp hr with hr | hr
      · obtain ⟨a, ha, rfl⟩ := List.mem_map.mp hr
        rw [(rowOf_ok hrr (ks.2 a ha).2).1, rl]
      · obtain ⟨a, ha, rfl⟩ := List.mem_map.mp hr
        rw [List.length_map]; exact (hO.rw a ha).1
    · have : ob.o.greater = tri ((ob.o.some2.map fun one => rowOf ob.o.rows one) ++ ob.o.rows.map fun row => row.map (ob.o.p * ·)) ((ob.o.rows.length : Int)).toNat ob.o.p (ob.o.most + 1) := by
        unfold Od.greater; rw [Int.toNat_natCast]
      rw [this]; exact d8
end
end Bw
set_option Elab.async false
set_option linter.all false
set_option maxRecDepth 100000
set_option maxHeartbeats 4000000
namespace Bw
open PySem L2 Bd
/-! ### own rows in an own list -/
theorem Fr.remem {G0 H0 G H : Hp} {L L' : Ls} (F : Fr G0 H0 G L H) (h : ∀ p ∈ L', p ∈ L) (nd : (L'.map (·.1)).Nodup) : Fr G0 H0 G L' H := ⟨F.s, F.o.mono h, fun p hp => F.f p (h p hp), nd⟩
theorem Fr.updm {G0 H0 G H : Hp} {L : Ls} {l : Addr} {vs ws : List V} (F : Fr G0 H0 G L H) (hm : (l, vs) ∈ L) : Fr G0 H0 G (L.map fun p => if p.1 = l then (l, ws) else p) (L2.upd H l (.lst ws)) := by
  have hl := F.o.l (l, vs) hm
  have hf : H0 l = none := F.f (l, vs) hm
  have e : ∀ {H' : Hp}, H' l = none → Same H' H → Same H' (L2.upd H l (.lst ws)) := fun {H'} h s a u q => by
    have : a ≠ l := fun c => by rw [c, h] at q; cases q
    rw [upd_ne this]; exact s a u q
  refine ⟨⟨F.s.g, e hl.1 F.s.i, e hf F.s.h, F.s.d⟩, ⟨e hl.1 F.o.i, fun p hp => ?_⟩, fun p hp => ?_, ?_⟩
  · obtain ⟨p0, h0, rfl⟩ := List.mem_map.mp hp
    by_cases c : p0.1 = l
    · rw [if_pos c]; exact ⟨hl.1, upd_same⟩
    · rw [if_neg c]
      have := F.o.l p0 h0
      exact ⟨this.1, by rw [upd_ne c]; exact this.2⟩
  · obtain ⟨p0, h0, rfl⟩ := List.mem_map.mp hp
    by_cases c : p0.1 = l
    · rw [if_pos c]; exact hf
    · rw [if_neg c]; exact F.f p0 h0
  · have : (L.map fun p => if p.1 = l then (l, ws) else p).map (·.1) = L.map (·.1) := by
      rw [List.map_map]
      refine List.map_congr_left fun p _ => ?_
      show (if p.1 = l then (l, ws) else p).1 = p.1
      by_cases c : p.1 = l
      · rw [if_pos c, c]
      · rw [if_neg c]
    rw [this]; exact F.nd
def rowsL (as : List Addr) (rows : LL) : Ls := List.zipWith (fun a (r : L) => (a, r.map V.int)) as rows
theorem rowsL_fst {as : List Addr} {rows : LL} (h : as.length = rows.length) : (rowsL as rows).map (·.1) = as := by
  unfold rowsL
  refine List.ext_getElem? fun i => ?_
  rw [List.getElem?_map, List.getElem?_zipWith]
  by_cases hi : i < as.length
  · rw [List.getElem?_eq_getElem hi, List.getElem?_eq_getElem (by omega)]; rfl
  · rw [List.getElem?_eq_none (by omega), List.getElem?_eq_none (show rows.length ≤ i by omega)]; rfl
theorem rowsL_mem {as : List Addr} {rows : LL} {i : Nat} {a : Addr} {r : L} (h1 : as[i]? = some a) (h2 : rows[i]? = some r) : (a, r.map V.int) ∈ rowsL as rows := by
  unfold rowsL
  exact List.mem_iff_getElem?.mpr ⟨i, by rw [List.getElem?_zipWith, h1, h2]⟩
theorem rowsL_of {as : List Addr} {rows : LL} {p : Addr × List V} (h : p ∈ rowsL as rows) : ∃ (i : Nat) (a : Addr) (r : L), as[i]? = some a ∧ rows[i]? = some r ∧ p = (a, r.map V.int) := by
  unfold rowsL at h
  obtain ⟨i, hi⟩ := List.mem_iff_getElem?.mp h
  rw [List.getElem?_zipWith] at hi
  cases ha : as[i]? with
  | none => rw [ha] at hi; cases hi
  | some a =>
    cases hr : rows[i]? with
    | none => rw [ha, hr] at hi; cases hi
    | some r => rw [ha, hr] at hi; cases hi; exact ⟨i, a, r, ha, hr, rfl⟩
theorem nodup_at {as : List Addr} (nd : as.Nodup) {i j : Nat} {a : Addr} (h1 : as[i]? = some a) (h2 : as[j]? = some a) : i = j := by
  obtain ⟨hi, e1⟩ := List.getElem?_eq_some_iff.mp h1
  obtain ⟨hj, e2⟩ := List.getElem?_eq_some_iff.mp h2
  rcases Nat.lt_trichotomy i j with c | c | c
  · exact absurd (e1.trans e2.symm) (List.pairwise_iff_getElem.mp nd i j hi hj c)
  · exact c
  · exact absurd (e2.trans e1.symm) (List.pairwise_iff_getElem.mp nd j i hj hi c)
theorem rowsL_set {as : List Addr} {rows : LL} (h : as.length = rows.length) (nd : as.Nodup) {i : Nat} {a : Addr} (ha : as[i]? = some a) (r : L) : (rowsL as rows).map (fun p => if p.1 = a then (a, r.map V.int) else p) = rowsL as (rows.set i r) := by
  unfold rowsL
  refine List.ext_getElem? fun j => ?_
  rw [List.getElem?_map, List.getElem?_zipWith, List.getElem?_zipWith, List.getElem?_set]
  by_cases hj : j < as.length
  · rw [List.getElem?_eq_getElem hj, List.getElem?_eq_getElem (show j < rows.length by omega)]
    by_cases c : i = j
    · subst c
      have : as[i] = a := by rw [List.getElem?_eq_getElem hj] at ha; exact Option.some.inj ha
      simp [this, show i < rows.length by omega]
    · have : as[j] ≠ a := fun z => c (nodup_at nd ha (by rw [List.getElem?_eq_getElem hj, z]))
      simp [c, this]
  · rw [List.getElem?_eq_none (by omega)]; simp
/-- how the table stands -/
structure Tb (G0 H0 G : Hp) (lr : Addr) (as : List Addr) (rows : LL) (H : Hp) : Prop where
  F : Fr G0 H0 G ((lr, as.map V.ref) :: rowsL as rows) H
  len : as.length = rows.length
theorem Tb.nd {G0 H0 G H : Hp} {lr : Addr} {as : List Addr} {rows : LL} (T : Tb G0 H0 G lr as rows H) : lr ∉ as ∧ as.Nodup := by
  have := T.F.nd
  rw [List.map_cons, List.nodup_cons, rowsL_fst T.len] at this
  exact this
theorem Tb.step {G0 H0 G H G2 H2 : Hp} {lr : Addr} {as : List Addr} {rows : LL} (T : Tb G0 H0 G lr as rows H) (s : Step G H G2 H2) : Tb G0 H0 G2 lr as rows H2 := ⟨T.F.step s, T.len⟩
theorem Tb.set {G0 H0 G H : Hp} {lr : Addr} {as : List Addr} {rows : LL} (T : Tb G0 H0 G lr as rows H) {i : Nat} {a : Addr} {r0 : L} (ha : as[i]? = some a) (hr : rows[i]? = some r0) (r : L) : Tb G0 H0 G lr as (rows.set i r) (L2.upd H a (.lst (r.map V.int))) := by
  obtain ⟨n1, n2⟩ := T.nd
  have hm := rowsL_mem ha hr
  have F2 := T.F.updm (ws := r.map V.int) (List.mem_cons_of_mem _ hm)
  refine ⟨?_, by rw [List.length_set]; exact T.len⟩
  have hne : lr ≠ a := fun z => n1 (by rw [z]; exact List.mem_iff_getElem?.mpr ⟨i, ha⟩)
  rw [List.map_cons, rowsL_set T.len n2 ha r] at F2
  rw [if_neg hne] at F2
  exact F2
theorem Tb.den {G0 H0 G H : Hp} {lr : Addr} {as : List Addr} {rows : LL} (T : Tb G0 H0 G lr as rows H) : Den.D H (.ref lr) rows := by
  refine ⟨lr, as.map V.ref, rfl, (T.F.o.l _ List.mem_cons_self).2, ?_⟩
  have key : ∀ (as : List Addr) (rows : LL), as.length = rows.length → (∀ p ∈ rowsL as rows, H p.1 = some (.lst p.2)) → Paired (Den.D H) (as.map V.ref) rows := by
    intro as
    induction as with
    | nil => intro rows h _; cases rows with
      | nil => exact .nil
      | cons r rows => cases h
    | cons a as ih =>
      intro rows h hp
      cases rows with
      | nil => cases h
      | cons r rows => exact .cons ⟨a, r.map V.int, rfl, hp (a, r.map V.int) List.mem_cons_self, d_intsV r⟩ (ih rows (by simpa using h) fun p hp' => hp p (List.mem_cons_of_mem _ hp'))
  exact key as rows T.len fun p hp => (T.F.o.l p (List.mem_cons_of_mem _ hp)).2
/-- a read of one number -/
theorem ev_rr {K : PySem.W.Frag} {σ : L2.St} {G0 H0 G H : Hp} {lr : Addr} {as : List Addr} {rows : LL} (T : Tb G0 H0 G lr as rows H) {j : Nat} {ti tj : TE} {i k : Nat} (hs : σ[j]? = some (some (.ref lr)))
    (hi : Ev ti σ G ((lr, as.map V.ref) :: rowsL as rows) (i : Int)) (hk : Ev tj σ G ((lr, as.map V.ref) :: rowsL as rows) (k : Int)) (hil : i < rows.length) (hkl : k < (rows.getD i []).length) : Ev (tOp (rIxL K) (tOp (rIxL K) (tVar j) ti) tj) σ G ((lr, as.map V.ref) :: rowsL as rows) (ent rows i k) := fun G1 H1 e o Q q => by
  have hia : i < as.length := by rw [T.len]; exact hil
  have ha : as[i]? = some as[i] := List.getElem?_eq_getElem hia
  have hm := rowsL_mem ha (getD_at hil)
  refine ⟨_, hs, hi G1 H1 e o _ fun v G2 H2 s2 d2 => ?_⟩
  obtain rfl : v = V.int (i : Int) := d2
  have o2 := o.step s2
  refine ⟨lr, as.map V.ref, _, .ref as[i], rfl, rfl, SqL.of (o2.l _ List.mem_cons_self).2, atI_k rfl (by rw [List.getElem?_map, ha]; rfl), ?_⟩
  refine hk G2 H2 (e.trans s2.g) o2 _ fun w G3 H3 s3 d3 => ?_
  obtain rfl : w = V.int (k : Int) := d3
  have o3 := o2.step s3
  exact ⟨as[i], (rows.getD i []).map V.int, _, .int (ent rows i k), rfl, rfl, SqL.of (o3.l _ (List.mem_cons_of_mem _ hm)).2, atI_k rfl (by rw [List.getElem?_map, getD_some hkl]; rfl), q _ G3 H3 (s2.trans s3) rfl⟩
/-- rows[i][k] = e -/
theorem st_rset {K : PySem.W.Frag} {σ : L2.St} {G0 H0 G H : Hp} {D' : Ends} {lr : Addr} {as : List Addr} {rows : LL} (T : Tb G0 H0 G lr as rows H) {te : TE} {j a b : Nat} {i k : Nat} {x : Int} (hs : σ[j]? = some (some (.ref lr))) (he : Ev te σ G ((lr, as.map V.ref) :: rowsL as rows) x)
    (hi : σ[a]? = some (some (.int (i : Int)))) (hk : σ[b]? = some (some (.int (k : Int)))) (hil : i < rows.length) (hkl : k < (rows.getD i []).length) (q : ∀ G2 H2, Tb G0 H0 G2 lr as (rows.set i ((rows.getD i []).set k x)) H2 → Same G G2 → D'.nx σ H2) :
    tAsg te (gSub (tOp (rIxL K) (tVar j) (tVar a)) (tVar b) rSetL) D' σ H :=
  he G H (Same.refl _) T.F.o _ fun v G2 H2 s2 d2 => by
    obtain rfl : v = V.int x := d2
    have T2 := T.step s2
    have hia : i < as.length := by rw [T.len]; exact hil
    have ha : as[i]? = some as[i] := List.getElem?_eq_getElem hia
    have hm := rowsL_mem ha (getD_at hil)
    have o2 := T2.F.o
    refine ⟨_, hs, _, hi, lr, as.map V.ref, _, .ref as[i], rfl, rfl, SqL.of (o2.l _ List.mem_cons_self).2, atI_k rfl (by rw [List.getElem?_map, ha]; rfl), _, hk, as[i], (rows.getD i []).map V.int, _, k, rfl, rfl, (o2.l _ (List.mem_cons_of_mem _ hm)).2, ?_, ?_⟩
    · unfold ixN; rw [if_pos (by omega), if_pos (by rw [List.length_map]; omega)]; simp
    · rw [← List.map_set]
      exact q G2 _ (T2.set ha (getD_at hil) _) s2.g
/-- [list(row) for row in table]: own rows -/
theorem st_copy {K : PySem.W.Frag} {σ : L2.St} {G0 H0 G H : Hp} {D' : Ends} {ts : TE} {k i : Nat} {own : List Nat} {xs : LL} (F : Fr G0 H0 G [] H) (h : Ev ts σ G [] xs) (hz : xs.length ≤ 10000) (hw : ∀ v, wipe ((wipe σ own).set k (some v)) own = wipe σ own) (hk : ∀ v, ((wipe σ own).set k (some v))[k]? = some (some v))
    (q : ∀ lr as G2 H2, Tb G0 H0 G2 lr as xs H2 → Same G G2 → D'.nx (σ.set i (some (.ref lr))) H2) :
    tAsg (tLc (iList K ts) (gName k) tYes (tCB (fun xs H Q => ∃ p ys, xs = [.ref p] ∧ (SqL K H p ys ∨ SqT K H p ys) ∧ ∀ l, H l = none → Q (.ref l) (upd H l (.lst ys))) (tCons (tVar k) tNil)) own) (gName i) D' σ H :=
  h G H (Same.refl _) F.o _ fun v G2 H2 s2 d2 => by
    obtain ⟨a, vs, rfl, h1, h2⟩ := d2
    have hl := Paired.len h2
    have F2 := F.step s2
    refine ⟨a, rfl, ⟨vs, SqL.of (s2.i _ _ h1)⟩, fun D hD => lc_list (K := K) (a := a) (xs := vs) (fun i H' => ∃ as, Tb G0 H0 G2 D as (xs.take i) H') ⟨[], F2.new hD, by simp⟩ (fun i H' _ ⟨as, T⟩ => SqL.of (T.F.o.i _ _ h1)) (fun i x H' hx ⟨as, T⟩ => ?_) (fun H' ⟨as, T⟩ => ?_)⟩
    · obtain ⟨x', hx', dx⟩ := Paired.at' h2 hx
      obtain ⟨b, ws, rfl, e1, e2⟩ := dx
      have ew := d_ints.mp e2
      refine ⟨hw _, tYes_ ?_⟩
      refine ⟨_, hk _, b, ws, rfl, .inl (SqL.of (T.F.o.i _ _ e1)), fun l hl' => ?_⟩
      have hne : D ≠ l := fun z => by have := (T.F.o.l _ List.mem_cons_self).2; rw [z, hl'] at this; cases this
      refine ⟨as.map V.ref, by rw [upd_ne hne]; exact (T.F.o.l _ List.mem_cons_self).2, ?_, as ++ [l], ?_, ?_⟩
      · rw [List.length_map, T.len, List.length_take]
        have hzz : (10000 : Nat) < sizeLine := by decide
        have : i < xs.length := (List.getElem?_eq_some_iff.mp hx').1
        omega
      · have F3 := (T.F.new (vs := ws) hl').swap.upd (ws := as.map V.ref ++ [.ref l])
        have er : xs.take (i + 1) = xs.take i ++ [x'] := by rw [List.take_add_one, hx']; rfl
        have ez : rowsL (as ++ [l]) (xs.take (i + 1)) = rowsL as (xs.take i) ++ [(l, ws)] := by
          rw [er, ew]; unfold rowsL
          rw [List.zipWith_append T.len]; rfl
        rw [ez]
        have em : (as ++ [l]).map V.ref = as.map V.ref ++ [.ref l] := by simp
        rw [em]
        refine F3.remem (fun p hp => ?_) ?_
        · simp only [List.mem_cons, List.mem_append, List.not_mem_nil, or_false] at hp ⊢
          rcases hp with h | h | h
          · exact .inl h
          · exact .inr (.inr h)
          · exact .inr (.inl h)
        · have nd := F3.nd
          simp only [List.map_cons, List.nodup_cons, List.mem_cons, not_or, List.map_append, List.map_nil] at nd ⊢
          obtain ⟨⟨n1, n2⟩, n3, n4⟩ := nd
          refine ⟨?_, ?_⟩
          · rw [List.mem_append]; rintro (z | z)
            · exact n2 z
            · exact n1 (List.mem_singleton.mp z)
          · rw [List.nodup_append]
            refine ⟨n4, by simp, ?_⟩
            intro x hx y hy
            rw [List.mem_singleton.mp hy]
            intro z; exact n3 (by rw [← z]; exact hx)
      · rw [List.length_append, T.len, List.length_take, List.length_take]
        have : i < xs.length := (List.getElem?_eq_some_iff.mp hx').1
        simp; omega
    · rw [List.take_of_length_le (by omega)] at T
      exact q D as G2 H' T s2.g
end Bw
set_option Elab.async false
set_option linter.all false
set_option maxRecDepth 100000
set_option maxHeartbeats 4000000
namespace Bw
open PySem L2 Bd
/-! ### bounds of a determinant -/
theorem fdiv_le (a b : Int) : (a.fdiv b).natAbs ≤ a.natAbs := by
  rcases Int.lt_trichotomy b 0 with h | h | h
  · have e : a.fdiv b = (-a).fdiv (-b) := (Int.neg_fdiv_neg a b).symm
    rw [e, Int.fdiv_eq_ediv_of_nonneg _ (show 0 ≤ -b by omega)]
    have := Int.natAbs_ediv_le_natAbs (-a) (-b)
    rw [Int.natAbs_neg] at this; exact this
  · subst h; simp
  · rw [Int.fdiv_eq_ediv_of_nonneg _ (show 0 ≤ b by omega)]
    exact Int.natAbs_ediv_le_natAbs a b
def Bk (b k : Nat) : Nat := 2 ^ k * (b + 1) - 1
theorem Bk_one (b k : Nat) : Bk b k + 1 = 2 ^ k * (b + 1) := by
  unfold Bk
  have : 0 < 2 ^ k * (b + 1) := Nat.mul_pos (Nat.pow_pos (by decide)) (by omega)
  omega
theorem Bk_succ (b k : Nat) : Bk b (k + 1) = 2 * Bk b k + 1 := by
  have h1 := Bk_one b k
  have h2 := Bk_one b (k + 1)
  have : 2 ^ (k + 1) * (b + 1) = 2 * (2 ^ k * (b + 1)) := by rw [Nat.pow_succ]; grind
  omega
theorem Bk_mono (b : Nat) {j k : Nat} (h : j ≤ k) : Bk b j ≤ Bk b k := by
  have h1 := Bk_one b j
  have h2 := Bk_one b k
  have : 2 ^ j * (b + 1) ≤ 2 ^ k * (b + 1) := Nat.mul_le_mul_right _ (Nat.pow_le_pow_right (by decide) h)
  omega
theorem Bk_le {b k n M : Nat} (h : k ≤ n) (hM : 2 ^ n * (b + 1) ≤ M) : Bk b k + 1 ≤ M := by
  have h1 := Bk_one b k
  have : 2 ^ k * (b + 1) ≤ 2 ^ n * (b + 1) := Nat.mul_le_mul_right _ (Nat.pow_le_pow_right (by decide) h)
  omega
theorem up2 {x : Int} {a b : Nat} (h : x.natAbs ≤ 2 ^ a) (hab : a ≤ b) : x.natAbs ≤ 2 ^ b := Nat.le_trans h (Nat.pow_le_pow_right (by decide) hab)
def detRowN (pk : Int) (rk : L) (ahead : Int) (k : Nat) (row : L) (s : Nat) : L := It s (detEnt pk rk ahead k) row
theorem detRowN_ok {pk : Int} {rk : L} {ahead : Int} {k b n : Nat} {row : L} (hl : row.length = n) (h1 : pk.natAbs ≤ 2 ^ Bk b k) (h2 : Bn (Bk b k) rk) (h3 : Bn (Bk b k) row) (s : Nat) (hs : k + 1 + s ≤ n) :
    (detRowN pk rk ahead k row s).length = n ∧ (∀ j, (j ≤ k ∨ k + 1 + s ≤ j) → at_ (detRowN pk rk ahead k row s) j = at_ row j) ∧ Bn (Bk b (k + 1)) (detRowN pk rk ahead k row s) := by
  induction s with
  | zero => exact ⟨hl, fun j _ => rfl, h3.mono (Bk_mono b (by omega))⟩
  | succ s ih =>
    obtain ⟨i1, i2, i3⟩ := ih (by omega)
    have e : detRowN pk rk ahead k row (s + 1) = detEnt pk rk ahead k s (detRowN pk rk ahead k row s) := rfl
    rw [e]
    unfold detEnt
    refine ⟨by rw [List.length_set]; exact i1, fun j hj => ?_, fun j => ?_⟩
    · rw [at_set, if_neg (by omega)]; exact i2 j (by omega)
    · rw [at_set]
      split
      · rw [i2 (k + 1 + s) (by omega), i2 k (by omega)]
        refine Nat.le_trans (fdiv_le _ _) ?_
        have := natAbs_sub_le (natAbs_mul_le (h3 (k + 1 + s)) h1) (natAbs_mul_le (h3 k) (h2 (k + 1 + s)))
        refine up2 this ?_
        have := Bk_succ b k
        omega
      · exact i3 j
def detRowsN (k : Nat) (ahead : Int) (rows : LL) (n : Nat) : LL := It n (fun t rs => rs.set (k + 1 + t) (detRow (ent rs k k) (rs.getD k []) ahead k (rs.length - (k + 1)) (rs.getD (k + 1 + t) []))) rows
structure Sq (rows : LL) (n : Nat) : Prop where
  len : rows.length = n
  wid : ∀ i, i < n → (rows.getD i []).length = n
theorem detRowsN_ok {k b n : Nat} {ahead : Int} {rows : LL} (S : Sq rows n) (hk : k < n) (h2 : ∀ i, k ≤ i → i < n → Bn (Bk b k) (rows.getD i [])) (t : Nat) (ht : k + 1 + t ≤ n) :
    Sq (detRowsN k ahead rows t) n ∧ (∀ i, (i ≤ k ∨ k + 1 + t ≤ i) → (detRowsN k ahead rows t).getD i [] = rows.getD i []) ∧ ∀ i, k < i → i < n → Bn (Bk b (k + 1)) ((detRowsN k ahead rows t).getD i []) := by
  induction t with
  | zero => exact ⟨S, fun _ _ => rfl, fun i h1 h3 => (h2 i (by omega) h3).mono (Bk_mono b (by omega))⟩
  | succ t ih =>
    obtain ⟨i1, i2, i3⟩ := ih (by omega)
    have e : detRowsN k ahead rows (t + 1) = (detRowsN k ahead rows t).set (k + 1 + t) (detRow (ent (detRowsN k ahead rows t) k k) ((detRowsN k ahead rows t).getD k []) ahead k ((detRowsN k ahead rows t).length - (k + 1)) ((detRowsN k ahead rows t).getD (k + 1 + t) [])) := rfl
    rw [e]
    have r1 := i2 k (by omega)
    have r2 := i2 (k + 1 + t) (by omega)
    have hkk : Bn (Bk b k) ((detRowsN k ahead rows t).getD k []) := by rw [r1]; exact h2 k (by omega) hk
    obtain ⟨d1, d2, d3⟩ := detRowN_ok (pk := ent (detRowsN k ahead rows t) k k) (rk := (detRowsN k ahead rows t).getD k []) (ahead := ahead) (k := k) (b := b) (n := n) (row := (detRowsN k ahead rows t).getD (k + 1 + t) []) (i1.wid _ (by omega)) (hkk k) hkk (by rw [r2]; exact h2 _ (by omega) (by omega)) (n - (k + 1)) (by omega)
    have ed : detRow (ent (detRowsN k ahead rows t) k k) ((detRowsN k ahead rows t).getD k []) ahead k ((detRowsN k ahead rows t).length - (k + 1)) ((detRowsN k ahead rows t).getD (k + 1 + t) []) = detRowN (ent (detRowsN k ahead rows t) k k) ((detRowsN k ahead rows t).getD k []) ahead k ((detRowsN k ahead rows t).getD (k + 1 + t) []) (n - (k + 1)) := by
      unfold detRow detRowN; rw [i1.len]
    rw [ed]
    refine ⟨⟨by rw [List.length_set]; exact i1.len, fun i hi => ?_⟩, fun i hi => ?_, fun i h1 h3 => ?_⟩
    · rw [getD_set]
      split
      · exact d1
      · exact i1.wid i hi
    · rw [getD_set, if_neg (by omega)]; exact i2 i (by omega)
    · rw [getD_set]
      split
      · exact d3
      · exact i3 i h1 h3
/-- the state before column k -/
structure Dv (n b k : Nat) (rows : LL) (ahead : Int) : Prop where
  sq : Sq rows n
  bd : ∀ i, i < n → Bn (Bk b (min i k)) (rows.getD i [])
  a0 : ahead ≠ 0
  ab : ahead.natAbs ≤ 2 ^ Bk b (k - 1)
theorem pivotFrom_ok (rows : LL) (k : Nat) : ∀ (n i : Nat), (∀ j, pivotFrom rows k n i = some j → i ≤ j ∧ j < i + n ∧ ent rows j k ≠ 0)
  | 0, i, j, h => by cases h
  | n + 1, i, j, h => by
    unfold pivotFrom at h
    split at h
    · cases h; exact ⟨by omega, by omega, by assumption⟩
    · have := pivotFrom_ok rows k n (i + 1) j h
      exact ⟨by omega, by omega, this.2.2⟩
theorem Dv.swap {n b k : Nat} {rows : LL} {ahead : Int} (D : Dv n b k rows ahead) {i : Nat} (hk : k ≤ i) (hi : i < n) : Dv n b k (Bd.swap rows k i []) ahead := by
  have hkn : k < n := by omega
  have g : ∀ j, (Bd.swap rows k i []).getD j [] = rows.getD (sw k i j) [] := fun j => getD_swap _ _ _ _ (by rw [D.sq.len]; exact hkn) (by rw [D.sq.len]; exact hi) j
  refine ⟨⟨by rw [len_swap]; exact D.sq.len, fun j hj => by rw [g]; exact D.sq.wid _ (sw_lt hkn hi hj)⟩, fun j hj => ?_, D.a0, D.ab⟩
  rw [g]
  have h1 := sw_lt hkn hi hj
  refine (D.bd _ h1).mono (Bk_mono b ?_)
  unfold sw
  split <;> (try split) <;> omega
theorem Dv.next {n b k : Nat} {rows : LL} {ahead : Int} (D : Dv n b k rows ahead) (hk : k < n) (hp : ent rows k k ≠ 0) : Dv n b (k + 1) (detRowsN k ahead rows (n - (k + 1))) (ent (detRowsN k ahead rows (n - (k + 1))) k k) := by
  obtain ⟨d1, d2, d3⟩ := detRowsN_ok (ahead := ahead) (b := b) D.sq hk (fun i h1 h2 => by have := D.bd i h2; rwa [Nat.min_eq_right h1] at this) (n - (k + 1)) (by omega)
  have rk := d2 k (by omega)
  have ek : ent (detRowsN k ahead rows (n - (k + 1))) k k = ent rows k k := by unfold ent; rw [rk]
  refine ⟨d1, fun i hi => ?_, by rw [ek]; exact hp, ?_⟩
  · by_cases c : i ≤ k
    · rw [d2 i (by omega)]
      have := D.bd i hi
      rw [Nat.min_eq_left (by omega)] at this
      rw [Nat.min_eq_left (by omega)]; exact this
    · rw [Nat.min_eq_right (by omega)]; exact d3 i (by omega) hi
  · rw [ek]
    have := D.bd k hk k
    rw [Nat.min_eq_left (by omega)] at this
    exact this
def DetOk (t : LL) (n : Nat) : Prop := n ≤ 9 ∧ Sq t n ∧ ∃ b, b ≤ 1000 ∧ (∀ r ∈ t, Bn b r) ∧ 2 ^ n * (b + 1) ≤ 72000
section
variable {P : Program} {w : World} {K : PySem.W.Frag} {mg : Str → Option Value} {base : Heap}
/-! ### pivot_below -/
abbrev s_pivot_below : Stmt := top 25
theorem sc_pivot_below : FnScope ["rows", "k", "i"] ["rows", "k"] (defScope s_pivot_below) := ⟨rfl, rfl, rfl, by decide +kernel, rfl, by decide +kernel, by decide +kernel⟩
  -- slots 0:rows 1:k 2:i
def PbPre (x : LL × Int × Unit) : Prop := 0 ≤ x.2.1 ∧ x.2.1 < x.1.length ∧ x.1.length ≤ 100 ∧ Sq x.1 x.1.length
abbrev sp_pivot_below : Sp := SpF PbPre fun x : LL × Int × Unit => on (pivot x.1 x.2.1.toNat)
theorem ok_pivot_below (T : Tx mg)  {f : Addr} {fd : FuncData} (F : Fun K "pivot_below" "pivot_below" s_pivot_below f fd) : FnOk P w K mg base CX0 1 f fd ["rows", "k"] sp_pivot_below := by
  refine F.ok sc_pivot_below (fun vs H Q E h => SpF.len h) (fun cdv A outer s H vs Q E hr h => ?_)
  obtain ⟨G, ⟨rows, k, _⟩, e, ⟨u, _, rfl, hrs, _, _, rfl, hk, rfl⟩, ⟨k0, k1, k2, S⟩, q⟩ := h
  obtain rfl : _ = V.int k := hk
  dsimp only at hrs q k0 k1 k2 S
  obtain ⟨N, rfl⟩ : ∃ N : Nat, k = (N : Int) := ⟨k.toNat, by omega⟩
  rw [Int.toNat_natCast] at q
  
  refine ⟨_, (pss_cons (ps_for PassesOwn.never rfl (pi_range2 rfl T.b_range (pa_cons (pv 1) (pa_cons (pe_callB (lenK (K := K)) (by rfl) T.b_len PySem.boot_len (pa_cons (pv 0) pa_nil)) pa_nil))) (pg_name (i := 2) sc_pivot_below.nd rfl (Or.inl rfl)) (pss_one (ps_if (pt_cmpR op_ne (pe_ix (ixL (K := K)) (pe_ix (ixL (K := K)) (pv 0) (pv 2) (fun _ _ => rfl)) (pv 1) (fun _ _ => rfl)) pe_int (nomark _)) (pss_one (ps_ret (pv 2))) pss_nil)))
      (pss_one (ps_ret pe_non))), ?_⟩
  have F0 := Fr.start e
  refine st_for2 F0 (ea_cons (ev_var (x := (N : Int)) rfl rfl) (ea_cons (ev_len (ev_var rfl hrs)) ea_nil)) (by omega) (by omega) (by omega) (by omega)
    (fun t σ H' => ∃ G' i, Fr G H G' [] H' ∧ pivot rows N = pivotFrom rows N (rows.length - N - t) (N + t) ∧ σ = [some u, some (.int (N : Int)), i]) (fun G2 H2 F2 e2 => ⟨G2, none, F2, rfl, rfl⟩) ?_ ?_
  · rintro t σ H2 ht ⟨G2, i, F2, hp, rfl⟩
    have hi : N + t < rows.length := by omega
    obtain ⟨m, hm⟩ : ∃ m, rows.length - N - t = m + 1 := ⟨rows.length - N - t - 1, by omega⟩
    rw [hm] at hp
    have w1 := S.wid _ hi
    refine st_if F2 (et_test (ev_neI (ev_ixI (k := N) (ev_ix (k := N + t) (ev_var rfl (Den.mono F2.s.g hrs)) (ev_var (x := (N : Int) + (t : Int)) rfl rfl) (by omega) (getD_at hi)) (ev_var (x := (N : Int)) rfl rfl) rfl (by omega)) ev_int)) (fun hb G3 H3 F3 e3 => ?_) (fun hb G3 H3 F3 e3 => ?_)
    · have hb : ent rows (N + t) N ≠ 0 := bnT hb
      refine st_ret F3 (ev_some (ev_var (x := (N : Int) + (t : Int)) rfl rfl)) fun v G4 H4 s4 d4 => ?_
      show Q v H4
      refine q v G4 H4 s4 ?_
      have : pivot rows N = some (N + t) := by
        rw [hp]
        show (if ent rows (N + t) N ≠ 0 then _ else _) = _
        rw [if_pos hb]
      rw [this]
      show v = V.int ((N + t : Nat) : Int)
      rw [show v = V.int ((N : Int) + (t : Int)) from d4]; congr 1
    · have hb : ent rows (N + t) N = 0 := bnF hb
      refine nxt ⟨G3, _, F3, ?_, rfl⟩
      have e1 : rows.length - N - (t + 1) = m := by omega
      rw [hp, e1]
      show (if ent rows (N + t) N ≠ 0 then _ else _) = _
      rw [if_neg (by simpa using hb)]; rfl
  · rintro σ H2 ⟨G2, i, F2, hp, rfl⟩
    dsimp only
    refine st_ret F2 (x := (none : Option Int)) ev_non fun v G4 H4 s4 d4 => ?_
    show Q v H4
    refine q v G4 H4 s4 ?_
    have e1 : rows.length - N - ((rows.length : Int) - (N : Int)).toNat = 0 := by omega
    rw [e1] at hp
    rw [hp]; exact d4
/-! ### determinant -/
abbrev s_determinant : Stmt := top 26
theorem sc_determinant : FnScope ["table", "rows", "sign", "ahead", "k", "found", "i", "j", "row"] ["table"] (defScope s_determinant) := ⟨rfl, rfl, rfl, by decide +kernel, rfl, by decide +kernel, by decide +kernel⟩
  -- slots 0:table 1:rows 2:sign 3:ahead 4:k 5:found 6:i 7:j 8:row
def DePre (x : LL × Unit) : Prop := DetOk x.1 x.1.length
abbrev sp_determinant : Sp := SpF DePre fun x : LL × Unit => det x.1
theorem detN_none {t : LL} {m : Nat} (h : detN t m = none) : ∀ k, detN t (m + k) = none
  | 0 => h
  | k + 1 => by
    show detSt (m + k) (detN t (m + k)) = none
    rw [detN_none h k]; rfl
theorem Tb.den' {G H : Hp} {lr : Addr} {as : List Addr} {rows : LL} (hl : as.length = rows.length) (o : Ok G ((lr, as.map V.ref) :: rowsL as rows) H) : Den.D H (.ref lr) rows := by
  refine ⟨lr, as.map V.ref, rfl, (o.l _ List.mem_cons_self).2, ?_⟩
  have key : ∀ (as : List Addr) (rows : LL), as.length = rows.length → (∀ p ∈ rowsL as rows, H p.1 = some (.lst p.2)) → Paired (Den.D H) (as.map V.ref) rows := by
    intro as
    induction as with
    | nil => intro rows h _; cases rows with
      | nil => exact .nil
      | cons r rows => cases h
    | cons a as ih =>
      intro rows h hp
      cases rows with
      | nil => cases h
      | cons r rows => exact .cons ⟨a, r.map V.int, rfl, hp (a, r.map V.int) List.mem_cons_self, d_intsV r⟩ (ih rows (by simpa using h) fun p hp' => hp p (List.mem_cons_of_mem _ hp'))
  exact key as rows hl fun p hp => (o.l p (List.mem_cons_of_mem _ hp)).2
theorem set2_get {α : Type} {l : List α} {k i : Nat} {a b : α} (ha : l[k]? = some a) (hb : l[i]? = some b) (j : Nat) : ((l.set k b).set i a)[j]? = l[sw k i j]? := by
  have h1 := (List.getElem?_eq_some_iff.mp ha).1
  have h2 := (List.getElem?_eq_some_iff.mp hb).1
  rw [List.getElem?_set, List.getElem?_set]
  unfold sw
  by_cases c1 : i = j
  · subst c1
    rw [if_pos rfl, if_pos (by rw [List.length_set]; exact h2)]
    by_cases c2 : i = k
    · subst c2; rw [if_pos rfl]; rw [ha]
    · rw [if_neg c2, if_pos rfl]; exact ha.symm
  · rw [if_neg c1]
    by_cases c2 : k = j
    · subst c2; rw [if_pos rfl, if_pos h1, if_pos rfl]; exact hb.symm
    · rw [if_neg c2, if_neg (fun z => c2 z.symm), if_neg (fun z => c1 z.symm)]
/-- rows[-1][-1] -/
theorem ev_rrm {K : PySem.W.Frag} {σ : L2.St} {G0 H0 G H : Hp} {lr : Addr} {as : List Addr} {rows : LL} (T : Tb G0 H0 G lr as rows H) {j : Nat} {ti tj : TE} (hs : σ[j]? = some (some (.ref lr)))
    (hi : Ev ti σ G ((lr, as.map V.ref) :: rowsL as rows) (-1 : Int)) (hk : Ev tj σ G ((lr, as.map V.ref) :: rowsL as rows) (-1 : Int)) (hil : 0 < rows.length) (hw : (rows.getD (rows.length - 1) []).length = rows.length) : Ev (tOp (rIxL K) (tOp (rIxL K) (tVar j) ti) tj) σ G ((lr, as.map V.ref) :: rowsL as rows) (ent rows (rows.length - 1) (rows.length - 1)) := fun G1 H1 e o Q q => by
  have hl := T.len
  have hia : rows.length - 1 < as.length := by omega
  have ha : as[rows.length - 1]? = some as[rows.length - 1] := List.getElem?_eq_getElem hia
  have hm := rowsL_mem ha (getD_at (show rows.length - 1 < rows.length by omega))
  refine ⟨_, hs, hi G1 H1 e o _ fun v G2 H2 s2 d2 => ?_⟩
  obtain rfl : v = V.int (-1) := d2
  have o2 := o.step s2
  refine ⟨lr, as.map V.ref, _, .ref as[rows.length - 1], rfl, rfl, SqL.of (o2.l _ List.mem_cons_self).2, atI_m1 (by rw [List.length_map, hl, List.getElem?_map, ha]; rfl), ?_⟩
  refine hk G2 H2 (e.trans s2.g) o2 _ fun w G3 H3 s3 d3 => ?_
  obtain rfl : w = V.int (-1) := d3
  have o3 := o2.step s3
  exact ⟨as[rows.length - 1], (rows.getD (rows.length - 1) []).map V.int, _, .int (ent rows (rows.length - 1) (rows.length - 1)), rfl, rfl, SqL.of (o3.l _ (List.mem_cons_of_mem _ hm)).2, atI_m1 (by rw [List.length_map, hw, List.getElem?_map, getD_some (by omega)]; rfl), q _ G3 H3 (s2.trans s3) rfl⟩
theorem Tb.eqnil {K : PySem.W.Frag} {σ : L2.St} {G0 H0 G H : Hp} {lr : Addr} {as : List Addr} {rows : LL} {j : Nat} (hs : σ[j]? = some (some (.ref lr))) (T : ∀ H', Ok G ((lr, as.map V.ref) :: rowsL as rows) H' → Den.D H' (.ref lr) rows) (e : Same G H) (o : Ok G ((lr, as.map V.ref) :: rowsL as rows) H) {Q : Bool → Hp → Prop}
    (q : ∀ G2 H2, Step G H G2 H2 → Q (decide (rows = [])) H2) : tTest (tOp (rEqD K) (tVar j) (tLst tNil)) σ H Q :=
  ⟨_, hs, Nat.zero_le _, fun p hp => by
    have s3 := Step.new (o := .lst []) e hp
    have d3 : Den.D (upd H p (.lst [])) (.ref lr) rows := Den.mono (same_new hp) (T H o)
    refine ⟨DenP.P rows, .list [], DenP.dp d3, .lst (SqL.of upd_same) .nil, shaped_of rows (by decide), rfl, ?_⟩
    refine ⟨decide (rows = []), ?_, q _ _ s3⟩
    congr 1
    cases rows with
    | nil => show PyData.eqv (.list []) (.list []) = _; simp [PyData.eqv, PyData.eqvAll]
    | cons x f => show PyData.eqv (.list (DenP.P x :: f.map DenP.P)) (.list []) = _; simp [PyData.eqv, PyData.eqvAll]⟩
theorem ok_determinant (T : Tx mg) (D_pivot_below : Df P w K mg base "pivot_below" 1 ["rows", "k"] sp_pivot_below) {f : Addr} {fd : FuncData} (F : Fun K "determinant" "determinant" s_determinant f fd) : FnOk P w K mg base CX0 2 f fd ["table"] sp_determinant := by
  refine F.ok sc_determinant (fun vs H Q E h => SpF.len h) (fun cdv A outer s H vs Q E hr h => ?_)
  obtain ⟨G, ⟨tb, _⟩, e, ⟨u, _, rfl, htb, rfl⟩, hD, q⟩ := h
  have hD : DetOk tb tb.length := hD
  dsimp only at htb q
  obtain ⟨n9, S, b, b1000, hb, hbn⟩ := hD
  obtain ⟨f_pivot_below, fd_pivot_below, g_pivot_below, m_pivot_below, k_pivot_below, b_pivot_below⟩ := D_pivot_below
  have hr_pivot_below : Room 1 _ := hr.mono (by decide)
  refine ⟨_, (pss_cons (ps_setLc (i := 1) (own := [("row", 8)]) (tt := tYes) rfl sc_determinant.nd rfl rfl (sw_true rfl rfl rfl (by decide +kernel)) (pi_listK (K := K) (pv 0)) (blkOk_by (N := ["table", "rows", "sign", "ahead", "k", "found", "i", "j", "row"]) (sc := defScope s_determinant) (by decide +kernel)) (fun _ _ _ _ _ => (pg_name (i := 8) sc_determinant.nd rfl (Or.inl rfl))) (fun _ _ _ _ _ => pts_nil) (fun _ _ _ _ _ => (pe_callTy (listK (K := K)) (by rfl) T.b_list (by decide +kernel) (pa_cons (pv 8) pa_nil))))
      (pss_cons (ps_set (i := 2) sc_determinant.nd rfl (Or.inl rfl) pe_int)
      (pss_cons (ps_set (i := 3) sc_determinant.nd rfl (Or.inl rfl) pe_int)
      (pss_cons (ps_for PassesOwn.never rfl (pi_range1 rfl T.b_range (pa_cons (pe_op op_sub (pe_callB (lenK (K := K)) (by rfl) T.b_len PySem.boot_len (pa_cons (pv 1) pa_nil)) pe_int) pa_nil)) (pg_name (i := 4) sc_determinant.nd rfl (Or.inl rfl)) (pss_cons (ps_set (i := 5) sc_determinant.nd rfl (Or.inl rfl) (pe_call g_pivot_below hr_pivot_below rfl m_pivot_below k_pivot_below b_pivot_below .nil pass0 (pa_cons (pv 1) (pa_cons (pv 4) pa_nil))))
      (pss_cons (ps_if (pt_cmpR op_isN (pv 5) pe_non (nomark _)) (pss_one (ps_ret pe_int)) pss_nil)
      (pss_cons (ps_if (pt_cmpR op_ne (pv 5) (pv 4) (nomark _)) (pss_cons (ps_asg (pe_tup (pa_cons (pe_ix (ixL (K := K)) (pv 1) (pv 5) (fun _ _ => rfl)) (pa_cons (pe_ix (ixL (K := K)) (pv 1) (pv 4) (fun _ _ => rfl)) pa_nil))) (pg_tupK (K := K) (n := 2) rfl (pgs_cons (pg_sub (pv 1) (pv 4) set_list) (pgs_cons (pg_sub (pv 1) (pv 5) set_list) pgs_nil))))
      (pss_one (ps_set (i := 2) sc_determinant.nd rfl (Or.inl rfl) (pe_op op_sub pe_int (pv 2))))) pss_nil)
      (pss_cons (ps_for PassesOwn.never rfl (pi_range2 rfl T.b_range (pa_cons (pe_op op_add (pv 4) pe_int) (pa_cons (pe_callB (lenK (K := K)) (by rfl) T.b_len PySem.boot_len (pa_cons (pv 1) pa_nil)) pa_nil))) (pg_name (i := 6) sc_determinant.nd rfl (Or.inl rfl)) (pss_one (ps_for PassesOwn.never rfl (pi_range2 rfl T.b_range (pa_cons (pe_op op_add (pv 4) pe_int) (pa_cons (pe_callB (lenK (K := K)) (by rfl) T.b_len PySem.boot_len (pa_cons (pv 1) pa_nil)) pa_nil))) (pg_name (i := 7) sc_determinant.nd rfl (Or.inl rfl)) (pss_one (ps_asg (pe_op op_fdivZ (pe_op op_sub (pe_op op_mulW (pe_ix (ixL (K := K)) (pe_ix (ixL (K := K)) (pv 1) (pv 6) (fun _ _ => rfl)) (pv 7) (fun _ _ => rfl)) (pe_ix (ixL (K := K)) (pe_ix (ixL (K := K)) (pv 1) (pv 4) (fun _ _ => rfl)) (pv 4) (fun _ _ => rfl))) (pe_op op_mulW (pe_ix (ixL (K := K)) (pe_ix (ixL (K := K)) (pv 1) (pv 6) (fun _ _ => rfl)) (pv 4) (fun _ _ => rfl)) (pe_ix (ixL (K := K)) (pe_ix (ixL (K := K)) (pv 1) (pv 4) (fun _ _ => rfl)) (pv 7) (fun _ _ => rfl)))) (pv 3)) (pg_sub (pe_ix (ixL (K := K)) (pv 1) (pv 6) (fun _ _ => rfl)) (pv 7) set_list))))))
      (pss_one (ps_set (i := 3) sc_determinant.nd rfl (Or.inl rfl) (pe_ix (ixL (K := K)) (pe_ix (ixL (K := K)) (pv 1) (pv 4) (fun _ _ => rfl)) (pv 4) (fun _ _ => rfl)))))))))
      (pss_cons (ps_if (pt_cmpR (op_eqD hr.units) (pv 1) (pe_lst pa_nil) (nomark _)) (pss_one (ps_ret pe_int)) pss_nil)
      (pss_one (ps_ret (pe_op op_mulW (pv 2) (pe_ix (ixL (K := K)) (pe_ix (ixL (K := K)) (pv 1) (pe_un un_neg pe_int) (fun _ _ => rfl)) (pe_un un_neg pe_int) (fun _ _ => rfl)))))))))), ?_⟩
  have F0 := Fr.start e
  refine st_copy F0 (ev_var rfl htb) (by omega) (fun _ => rfl) (fun _ => rfl) fun lr as G1 H1 T1 e1 => ?_
  dsimp only
  refine st_seq (st_setI T1.F (ev_int (i := 1)) fun G2 H2 F2 e2 => ?_)
  have T2 : Tb G H G2 lr as tb H2 := ⟨F2, T1.len⟩
  refine st_seq (st_setI T2.F (ev_int (i := 1)) fun G3 H3 F3 e3 => ?_)
  have T3 : Tb G H G3 lr as tb H3 := ⟨F3, T1.len⟩
  have lrr : as.length = tb.length := T1.len
  refine st_seq ?_
  refine st_for1 F3 (ea_cons (ev_I0 ((ev_leno rfl List.mem_cons_self).cast (y := (tb.length : Int)) (by rw [List.length_map, lrr])) (ev_int (i := 1))) ea_nil) (by omega) (by omega)
    (fun k σ H' => ∃ G' as rows sign ahead kk fo i j ro, Tb G H G' lr as rows H' ∧ detN tb k = some (rows, sign, ahead) ∧ sign.natAbs ≤ 1 ∧ Dv tb.length b k rows ahead ∧ σ = [some u, some (.ref lr), some (.int sign), some (.int ahead), kk, fo, i, j, ro])
    (fun G4 H4 F4 e4 => ⟨G4, as, tb, 1, 1, none, none, none, none, none, ⟨F4, T1.len⟩, rfl, by decide, ⟨S, fun i hi => (hb _ (getD_mem hi)).mono (by have := Bk_mono b (show 0 ≤ min i 0 by omega); unfold Bk at this ⊢; simp at this ⊢), by decide, Nat.le_trans (by decide) (Nat.pow_le_pow_right (by decide) (Nat.zero_le _))⟩, rfl⟩) ?_ ?_
  · rintro k σ H4 hk ⟨G4, as, rows, sign, ahead, kk, fo, i, j, ro, T4, hN, hs, D, rfl⟩
    have hk : k + 1 < tb.length := by omega
    have rl := D.sq.len
    have hstep : detN tb (k + 1) = detSt k (detN tb k) := rfl
    rw [hN] at hstep
    refine st_seq ⟨_, rfl, _, rfl, H4, (rows, (k : Int), ()), Same.refl _, ⟨.ref lr, _, rfl, T4.den, _, _, rfl, rfl, rfl⟩, ⟨by dsimp only; omega, by dsimp only; omega, by dsimp only; omega, by dsimp only; rw [rl]; exact D.sq⟩, fun v G5 H5 s5 d5 => ?_⟩
    have s5' : Step G4 H4 G4 H5 := ⟨Same.refl _, T4.F.o.i.trans s5.h, s5.h, fun _ h _ => h⟩
    have T5 := T4.step s5'
    have d5 : Den.D G5 v (on (pivot rows ((k : Int)).toNat)) := d5
    rw [Int.toNat_natCast] at d5
    have d5 : Den.D G4 v (on (pivot rows k)) := by
      cases hp : pivot rows k with
      | none => rw [hp] at d5; exact d5
      | some i => rw [hp] at d5; exact d5
    refine st_seq (st_if T5.F (et_test (ev_isN (ev_var rfl d5) noI)) (fun hb5 G6 H6 F6 e6 => ?_) (fun hb5 G6 H6 F6 e6 => ?_))
    · cases hp : pivot rows k with
      | some i => rw [hp] at hb5; cases hb5
      | none =>
        refine st_ret F6 (ev_int (i := 0)) fun v G7 H7 s7 d7 => q v G7 H7 s7 ?_
        have h0 : detN tb (k + 1) = none := by rw [hstep]; unfold detSt; dsimp only; rw [hp]
        have h1 := detN_none h0 (tb.length - 1 - (k + 1))
        have e9 : k + 1 + (tb.length - 1 - (k + 1)) = tb.length - 1 := by omega
        rw [e9] at h1
        have : det tb = 0 := by unfold det; rw [h1]
        rw [this]; exact d7
    cases hp : pivot rows k with
    | none => rw [hp] at hb5; cases hb5
    | some i0 =>
      rw [hp] at d5
      obtain rfl : v = V.int (i0 : Int) := d5
      obtain ⟨p1, p2, p3⟩ := pivotFrom_ok rows k _ _ i0 hp
      have hi0 : i0 < tb.length := by omega
      refine nxt ?_
      have T6 : Tb G H G6 lr as rows H6 := ⟨F6, T4.len⟩
      -- behind the swap
      have rest : ∀ (as1 : List Addr) (rows1 : LL) (sign1 : Int) (G7 H7 : Hp) (D' : Ends), Tb G H G7 lr as1 rows1 H7 → Dv tb.length b k rows1 ahead → ent rows1 k k ≠ 0 → sign1.natAbs ≤ 1 →
          detN tb (k + 1) = some (detRowsN k ahead rows1 (tb.length - (k + 1)), sign1, ent (detRowsN k ahead rows1 (tb.length - (k + 1))) k k) →
          (∀ σ H', (∃ G' as rows sign ahead kk fo i j ro, Tb G H G' lr as rows H' ∧ detN tb (k + 1) = some (rows, sign, ahead) ∧ sign.natAbs ≤ 1 ∧ Dv tb.length b (k + 1) rows ahead ∧ σ = [some u, some (.ref lr), some (.int sign), some (.int ahead), kk, fo, i, j, ro]) → D'.nx σ H') →
          tSeq (tFor (iRng2 (tCons (tOp (rI0 fun i j => .int (i + j)) (tVar 4) (tC (.int 1))) (tCons (tCB (fun xs H Q => ∃ p ys, xs = [.ref p] ∧ (SqL K H p ys ∨ SqT K H p ys) ∧ Q (.int ys.length) H) (tCons (tVar 1) tNil)) tNil))) (gName 6)
              (tFor (iRng2 (tCons (tOp (rI0 fun i j => .int (i + j)) (tVar 4) (tC (.int 1))) (tCons (tCB (fun xs H Q => ∃ p ys, xs = [.ref p] ∧ (SqL K H p ys ∨ SqT K H p ys) ∧ Q (.int ys.length) H) (tCons (tVar 1) tNil)) tNil))) (gName 7)
                (tAsg (tOp (rI CDivZ fun i j => .int (i.fdiv j)) (tOp (rI0 fun i j => .int (i - j)) (tOp (rI CMulW fun i j => .int (i * j)) (tOp (rIxL K) (tOp (rIxL K) (tVar 1) (tVar 6)) (tVar 7)) (tOp (rIxL K) (tOp (rIxL K) (tVar 1) (tVar 4)) (tVar 4)))
                  (tOp (rI CMulW fun i j => .int (i * j)) (tOp (rIxL K) (tOp (rIxL K) (tVar 1) (tVar 6)) (tVar 4)) (tOp (rIxL K) (tOp (rIxL K) (tVar 1) (tVar 4)) (tVar 7)))) (tVar 3)) (gSub (tOp (rIxL K) (tVar 1) (tVar 6)) (tVar 7) rSetL))))
            (tAsg (tOp (rIxL K) (tOp (rIxL K) (tVar 1) (tVar 4)) (tVar 4)) (gName 3)) D' [some u, some (.ref lr), some (.int sign1), some (.int ahead), some (.int (k : Int)), some (.int (i0 : Int)), i, j, ro] H7 := by
        intro as1 rows1 sign1 G7 H7 D' T7 D7 hpk hs1 hN1 hD'
        have l1 : as1.length = tb.length := by rw [T7.len]; exact D7.sq.len
        have bk : ∀ i, k ≤ i → i < tb.length → Bn (Bk b k) (rows1.getD i []) := fun i h1 h2 => by have := D7.bd i h2; rwa [Nat.min_eq_right h1] at this
        have B9 : Bk b k + 1 ≤ 72000 := Bk_le (by omega) hbn
        refine st_seq ?_
        refine st_for2 T7.F (ea_cons (ev_I0 (ev_var (x := (k : Int)) rfl rfl) (ev_int (i := 1))) (ea_cons ((ev_leno rfl List.mem_cons_self).cast (y := (tb.length : Int)) (by rw [List.length_map, l1])) ea_nil)) (by omega) (by omega) (by omega) (by omega)
          (fun t σ H' => ∃ G' i j, Tb G H G' lr as1 (detRowsN k ahead rows1 t) H' ∧ σ = [some u, some (.ref lr), some (.int sign1), some (.int ahead), some (.int (k : Int)), some (.int (i0 : Int)), i, j, ro])
          (fun G8 H8 F8 e8 => ⟨G8, i, j, ⟨F8, T7.len⟩, rfl⟩) ?_ ?_
        · rintro t σ H8 ht ⟨G8, i', j', T8, rfl⟩
          have ht' : k + 1 + t < tb.length := by omega
          obtain ⟨S8, r8, b8⟩ := detRowsN_ok (ahead := ahead) (b := b) D7.sq (by omega) bk t (by omega)
          have e8 : detRowsN k ahead rows1 (t + 1) = (detRowsN k ahead rows1 t).set (k + 1 + t) (detRow (ent (detRowsN k ahead rows1 t) k k) ((detRowsN k ahead rows1 t).getD k []) ahead k ((detRowsN k ahead rows1 t).length - (k + 1)) ((detRowsN k ahead rows1 t).getD (k + 1 + t) [])) := rfl
          rw [e8]
          have rk := r8 k (by omega)
          have ri := r8 (k + 1 + t) (by omega)
          generalize detRowsN k ahead rows1 t = R at *
          have bk8 : Bn (Bk b k) (R.getD k []) := by rw [rk]; exact bk k (by omega) (by omega)
          have bi8 : Bn (Bk b k) (R.getD (k + 1 + t) []) := by rw [ri]; exact bk _ (by omega) (by omega)
          have ed : detRow (ent R k k) (R.getD k []) ahead k (R.length - (k + 1)) (R.getD (k + 1 + t) []) = detRowN (ent R k k) (R.getD k []) ahead k (R.getD (k + 1 + t) []) (tb.length - (k + 1)) := by
            unfold detRow detRowN; rw [S8.len]
          rw [ed]
          have eidx : (k : Int) + 1 + (t : Int) = ((k + 1 + t : Nat) : Int) := by omega
          refine st_for2 T8.F (ea_cons (ev_I0 (ev_var (x := (k : Int)) rfl rfl) (ev_int (i := 1))) (ea_cons ((ev_leno rfl List.mem_cons_self).cast (y := (tb.length : Int)) (by rw [List.length_map, l1])) ea_nil)) (by omega) (by omega) (by omega) (by omega)
            (fun s σ H' => ∃ G' j, Tb G H G' lr as1 (R.set (k + 1 + t) (detRowN (ent R k k) (R.getD k []) ahead k (R.getD (k + 1 + t) []) s)) H' ∧ σ = [some u, some (.ref lr), some (.int sign1), some (.int ahead), some (.int (k : Int)), some (.int (i0 : Int)), some (.int ((k + 1 + t : Nat) : Int)), j, ro])
            (fun G9 H9 F9 e9 => ⟨G9, j', ?_, by rw [← eidx]; rfl⟩) ?_ ?_
          · have : R.set (k + 1 + t) (detRowN (ent R k k) (R.getD k []) ahead k (R.getD (k + 1 + t) []) 0) = R := by
              show R.set (k + 1 + t) (R.getD (k + 1 + t) []) = R
              have hlt : k + 1 + t < R.length := by rw [S8.len]; exact ht'
              rw [List.getD_eq_getElem?_getD, List.getElem?_eq_getElem hlt]
              exact List.set_getElem_self hlt
            rw [this]; exact ⟨F9, T8.len⟩
          · rintro s σ H9 hs9 ⟨G9, j9, T9, rfl⟩
            have hs9 : k + 1 + s < tb.length := by omega
            obtain ⟨d1, d2, d3⟩ := detRowN_ok (pk := ent R k k) (rk := R.getD k []) (ahead := ahead) (k := k) (b := b) (n := tb.length) (row := R.getD (k + 1 + t) []) (S8.wid _ ht') (bk8 k) bk8 bi8 s (by omega)
            have en : detRowN (ent R k k) (R.getD k []) ahead k (R.getD (k + 1 + t) []) (s + 1) = detEnt (ent R k k) (R.getD k []) ahead k s (detRowN (ent R k k) (R.getD k []) ahead k (R.getD (k + 1 + t) []) s) := rfl
            rw [en]
            generalize detRowN (ent R k k) (R.getD k []) ahead k (R.getD (k + 1 + t) []) s = r at *
            have hRl : k + 1 + t < R.length := by rw [S8.len]; exact ht'
            have gi : (R.set (k + 1 + t) r).getD (k + 1 + t) [] = r := by rw [getD_set, if_pos ⟨rfl, hRl⟩]
            have gk : (R.set (k + 1 + t) r).getD k [] = R.getD k [] := by rw [getD_set, if_neg (by omega)]
            have ll : (R.set (k + 1 + t) r).length = tb.length := by rw [List.length_set]; exact S8.len
            have wk : (R.getD k []).length = tb.length := S8.wid k (by omega)
            have eij : ∀ c, ent (R.set (k + 1 + t) r) (k + 1 + t) c = at_ r c := fun c => by unfold ent; rw [gi]
            have ekj : ∀ c, ent (R.set (k + 1 + t) r) k c = at_ (R.getD k []) c := fun c => by unfold ent; rw [gk]
            have z1 : (ent (R.set (k + 1 + t) r) (k + 1 + t) (k + 1 + s)).natAbs ≤ 2 ^ Bk b k := by rw [eij, d2 _ (by omega)]; exact bi8 _
            have z2 : (ent (R.set (k + 1 + t) r) (k + 1 + t) k).natAbs ≤ 2 ^ Bk b k := by rw [eij, d2 _ (by omega)]; exact bi8 _
            have z3 : ∀ c, (ent (R.set (k + 1 + t) r) k c).natAbs ≤ 2 ^ Bk b k := fun c => by rw [ekj]; exact bk8 c
            have ab9 : Bk b (k - 1) ≤ 8999 := by
              have h1 := Bk_one b (k - 1)
              have h2 : 2 ^ (k - 1) * (b + 1) * 8 ≤ 2 ^ tb.length * (b + 1) ∨ k = 0 := by
                by_cases c : k = 0
                · exact .inr c
                · left
                  have h3 : 2 ^ (k - 1) * 8 ≤ 2 ^ tb.length := by
                    have : 2 ^ (k - 1) * 8 = 2 ^ (k - 1 + 3) := by rw [Nat.pow_add]
                    rw [this]; exact Nat.pow_le_pow_right (by decide) (by omega)
                  have h4 := Nat.mul_le_mul_right (b + 1) h3
                  have h5 : 2 ^ (k - 1) * (b + 1) * 8 = 2 ^ (k - 1) * 8 * (b + 1) := by grind
                  omega
              rcases h2 with h2 | h2
              · omega
              · subst h2
                show Bk b 0 ≤ 8999
                have := Bk_one b 0
                simp at this
                omega
            refine st_rset T9 (i := k + 1 + t) (k := k + 1 + s) (x := (at_ r (k + 1 + s) * ent R k k - at_ r k * at_ (R.getD k []) (k + 1 + s)).fdiv ahead) rfl ((ev_I (ev_I0 (ev_I (ev_rr T9 (i := k + 1 + t) (k := k + 1 + s) rfl (ev_var rfl rfl) (ev_var (x := ((k + 1 + s : Nat) : Int)) rfl (by show V.int _ = V.int _; congr 1)) (by rw [ll]; exact ht') (by rw [gi, d1]; exact hs9)) (ev_rr T9 (i := k) (k := k) rfl (ev_var rfl rfl) (ev_var (x := (k : Int)) rfl rfl) (by rw [ll]; omega) (by rw [gk, wk]; omega)) (cmul z1 (z3 k) (by omega)))
              (ev_I (ev_rr T9 (i := k + 1 + t) (k := k) rfl (ev_var rfl rfl) (ev_var (x := (k : Int)) rfl rfl) (by rw [ll]; exact ht') (by rw [gi, d1]; omega)) (ev_rr T9 (i := k) (k := k + 1 + s) rfl (ev_var (x := (k : Int)) rfl rfl) (ev_var (x := ((k + 1 + s : Nat) : Int)) rfl (by show V.int _ = V.int _; congr 1)) (by rw [ll]; omega) (by rw [gk, wk]; exact hs9)) (cmul z2 (z3 _) (by omega)))) (ev_var (x := ahead) rfl rfl) (cdiv D7.a0 D7.ab ab9)).cast (by rw [eij, eij, ekj, ekj]; rfl)) rfl (by show some (some (V.int _)) = some (some (V.int _)); congr 3) (by rw [ll]; exact ht') (by rw [gi, d1]; exact hs9) fun G10 H10 T10 e10 => ?_
            rw [gi, List.set_set] at T10
            exact ⟨G10, _, T10, rfl⟩
          · rintro σ H9 ⟨G9, j9, T9, rfl⟩
            have : ((tb.length : Int) - ((k : Int) + 1)).toNat = tb.length - (k + 1) := by omega
            rw [this] at T9
            exact ⟨G9, _, _, T9, rfl⟩
        · rintro σ H8 ⟨G8, i', j', T8, rfl⟩
          have e8 : ((tb.length : Int) - ((k : Int) + 1)).toNat = tb.length - (k + 1) := by omega
          rw [e8] at T8
          have D8 := D7.next (by omega) hpk
          refine st_setI T8.F (ev_rr T8 (i := k) (k := k) rfl (ev_var rfl rfl) (ev_var rfl rfl) (by rw [D8.sq.len]; omega) (by rw [D8.sq.wid k (by omega)]; omega)) fun G9 H9 F9 e9 => ?_
          exact hD' _ _ ⟨G9, as1, _, sign1, _, _, _, _, _, _, ⟨F9, T8.len⟩, hN1, hs1, D8, rfl⟩
      refine st_seq (st_if T6.F (et_test (ev_neI (ev_var (x := (i0 : Int)) rfl rfl) (ev_var (x := (k : Int)) rfl rfl))) (fun hb6 G7 H7 F7 e7 => ?_) (fun hb6 G7 H7 F7 e7 => ?_))
      · have hb6 : ¬ (i0 : Int) = (k : Int) := bnT hb6
        have hb6 : ¬ i0 = k := by omega
        have hka : k < as.length := by rw [T4.len, rl]; omega
        have hia : i0 < as.length := by rw [T4.len, rl]; omega
        refine st_seq (st_swap2 (va := .ref as[k]) (vb := .ref as[i0]) F7 rfl rfl rfl (by rw [List.getElem?_map, List.getElem?_eq_getElem hka]; rfl) (by rw [List.getElem?_map, List.getElem?_eq_getElem hia]; rfl) fun G8 H8 F8 e8 => ?_)
        have T7 : Tb G H G7 lr as rows H7 := ⟨F7, T4.len⟩
        obtain ⟨nd1, nd2⟩ := T7.nd
        have hsw : ((as.map V.ref).set k (.ref as[i0])).set i0 (.ref as[k]) = ((as.set k as[i0]).set i0 as[k]).map V.ref := by rw [List.map_set, List.map_set]
        rw [hsw] at F8
        have T8 : Tb G H G8 lr ((as.set k as[i0]).set i0 as[k]) (Bd.swap rows k i0 []) H8 := by
          have ga := set2_get (l := as) (List.getElem?_eq_getElem hka) (List.getElem?_eq_getElem hia)
          have gr := set2_get (l := rows) (getD_at (show k < rows.length by rw [rl]; omega)) (getD_at (show i0 < rows.length by rw [rl]; omega))
          have nd' : (lr :: ((as.set k as[i0]).set i0 as[k])).Nodup := by
            rw [List.nodup_cons]
            refine ⟨fun hm => ?_, ?_⟩
            · obtain ⟨c, hc⟩ := List.mem_iff_getElem?.mp hm
              rw [ga] at hc
              exact nd1 (List.mem_iff_getElem?.mpr ⟨_, hc⟩)
            · refine List.pairwise_iff_getElem.mpr fun c d hc hd hcd z => ?_
              have e1 := ga c
              have e2 := ga d
              rw [List.getElem?_eq_getElem hc] at e1
              rw [List.getElem?_eq_getElem hd, ← z] at e2
              have := nodup_at nd2 e1.symm e2.symm
              have h3 := congrArg (sw k i0) this
              rw [sw_sw, sw_sw] at h3
              omega
          have len' : ((as.set k as[i0]).set i0 as[k]).length = (Bd.swap rows k i0 []).length := by rw [List.length_set, List.length_set, len_swap]; exact T7.len
          refine ⟨F8.remem (fun p hp => ?_) (by rw [List.map_cons, rowsL_fst len']; exact nd'), len'⟩
          rcases List.mem_cons.mp hp with rfl | hp
          · exact List.mem_cons_self
          · obtain ⟨c, a, r, h1, h2, rfl⟩ := rowsL_of hp
            rw [ga] at h1
            rw [show (Bd.swap rows k i0 [])[c]? = rows[sw k i0 c]? from gr c] at h2
            exact List.mem_cons_of_mem _ (rowsL_mem h1 h2)
        have D8 := D.swap p1 hi0
        refine st_setI T8.F (ev_I0 (ev_int (i := 0)) (ev_var (x := sign) rfl rfl)) fun G9 H9 F9 e9 => ?_
        refine rest _ _ (0 - sign) G9 H9 _ ⟨F9, T8.len⟩ D8 ?_ (by omega) ?_ (fun _ _ h => h)
        · unfold ent; rw [getD_swap _ _ _ _ (by rw [rl]; omega) (by rw [rl]; omega)]
          have : sw k i0 k = i0 := by simp [sw]
          rw [this]; exact p3
        · rw [hstep]; unfold detSt; dsimp only; rw [hp]; dsimp only
          rw [if_neg hb6, if_neg hb6, len_swap, rl]; rfl
      · have hb6 : (i0 : Int) = (k : Int) := bnF hb6
        have hb6 : i0 = k := by omega
        refine nxt (rest as rows sign G7 H7 _ ⟨F7, T4.len⟩ D (by rw [← hb6] at p3 ⊢; exact p3) hs ?_ (fun _ _ h => h))
        rw [hstep]; unfold detSt; dsimp only; rw [hp]; dsimp only
        rw [if_pos hb6, if_pos hb6, rl]; rfl
  · rintro σ H4 ⟨G4, as, rows, sign, ahead, kk, fo, i, j, ro, T4, hN, hs, D, rfl⟩
    have hn : (((tb.length : Int) - 1).toNat) = tb.length - 1 := by omega
    rw [hn] at hN D
    have rl := D.sq.len
    have hdet : det tb = if rows = [] then 1 else sign * ent rows (rows.length - 1) (rows.length - 1) := by unfold det; rw [hN]
    refine st_seq (st_if T4.F (b := decide (rows = [])) (fun G1 H1 e1 o1 Q q => Tb.eqnil (G0 := G1) (H0 := H1) rfl (fun H' o' => Tb.den' T4.len o') o1.i o1 fun G2 H2 s2 => q G2 H2 s2) (fun hb5 G6 H6 F6 e6 => ?_) (fun hb5 G6 H6 F6 e6 => ?_))
    · have hb5 : rows = [] := of_decide_eq_true hb5
      refine st_ret F6 (ev_int (i := 1)) fun v G7 H7 s7 d7 => q v G7 H7 s7 ?_
      rw [hdet, if_pos hb5]; exact d7
    · have hb5 : ¬ rows = [] := of_decide_eq_false hb5
      have hpos : 0 < rows.length := by
        rcases Nat.eq_zero_or_pos rows.length with c | c
        · exact absurd (List.length_eq_zero_iff.mp c) hb5
        · exact c
      have T6 : Tb G H G6 lr as rows H6 := ⟨F6, T4.len⟩
      have hB := Bk_le (b := b) (k := min (rows.length - 1) (tb.length - 1)) (n := tb.length) (by omega) hbn
      refine nxt (st_ret T6.F (ev_I (ev_var (x := sign) rfl rfl) (ev_rrm T6 rfl (ev_neg ev_int) (ev_neg ev_int) hpos (by rw [D.sq.wid _ (by omega), rl])) (cmul (a := 0) (by omega) (D.bd (rows.length - 1) (by omega) _) (by omega))) fun v G7 H7 s7 d7 => q v G7 H7 s7 ?_)
      rw [hdet, if_neg hb5]; exact d7
end
end Bw
set_option Elab.async false
set_option linter.all false
set_option maxRecDepth 100000
set_option maxHeartbeats 4000000
namespace Bw
open PySem L2 Bd
theorem detN_ok {t : LL} {n b : Nat} (S : Sq t n) (hb : ∀ r ∈ t, Bn b r) (hn : 1 ≤ n) : ∀ k, k + 1 ≤ n → ∀ rows sign ahead, detN t k = some (rows, sign, ahead) → Dv n b k rows ahead ∧ sign.natAbs ≤ 1
  | 0, _, rows, sign, ahead, h => by
    cases h
    refine ⟨⟨S, fun i hi => ?_, by decide, Nat.le_trans (by decide) (Nat.pow_le_pow_right (by decide) (Nat.zero_le _))⟩, by decide⟩
    refine (hb _ (getD_mem (by rw [S.len]; exact hi))).mono ?_
    have := Bk_mono b (show 0 ≤ min i 0 by omega); unfold Bk at this ⊢; simp at this ⊢
  | k + 1, hk, rows, sign, ahead, h => by
    have e : detN t (k + 1) = detSt k (detN t k) := rfl
    rw [e] at h
    cases hc : detN t k with
    | none => rw [hc] at h; cases h
    | some st =>
      obtain ⟨r, s, a⟩ := st
      obtain ⟨D, hs⟩ := detN_ok S hb hn k (by omega) r s a hc
      rw [hc] at h
      unfold detSt at h
      dsimp only at h
      cases hp : pivot r k with
      | none => rw [hp] at h; cases h
      | some i =>
        rw [hp] at h
        dsimp only at h
        obtain ⟨p1, p2, p3⟩ := pivotFrom_ok r k _ _ i hp
        have rl := D.sq.len
        have hi : i < n := by omega
        by_cases c : i = k
        · rw [if_pos c, if_pos c] at h
          cases h
          refine ⟨?_, hs⟩
          have := D.next (by omega) (by rw [← c] at p3 ⊢; exact p3)
          rw [rl]; exact this
        · rw [if_neg c, if_neg c] at h
          cases h
          have D2 := D.swap p1 hi
          refine ⟨?_, by omega⟩
          have hne : ent (Bd.swap r k i []) k k ≠ 0 := by
            unfold ent; rw [getD_swap _ _ _ _ (by rw [rl]; omega) (by rw [rl]; omega)]
            have : sw k i k = i := by simp [sw]
            rw [this]; exact p3
          have := D2.next (by omega) hne
          rw [len_swap, rl]; exact this
theorem det_bn {t : LL} {n : Nat} (h : DetOk t n) : (det t).natAbs ≤ 2 ^ 72000 := by
  obtain ⟨n9, S, b, b1000, hb, hbn⟩ := h
  unfold det
  rw [S.len]
  by_cases hn : n = 0
  · subst hn
    have : t = [] := List.length_eq_zero_iff.mp S.len
    subst this
    show (Int.natAbs 1) ≤ _
    exact Nat.pow_pos (by decide)
  · cases hc : detN t (n - 1) with
    | none => exact Nat.zero_le _
    | some st =>
      obtain ⟨r, s, a⟩ := st
      obtain ⟨D, hs⟩ := detN_ok S hb (by omega) (n - 1) (by omega) r s a hc
      have rl := D.sq.len
      dsimp only
      split
      · exact Nat.pow_pos (by decide)
      · have h1 := D.bd (r.length - 1) (by omega) (r.length - 1)
        have h2 : (s * ent r (r.length - 1) (r.length - 1)).natAbs ≤ 2 ^ (0 + Bk b (min (r.length - 1) (n - 1))) := natAbs_mul_le (a := 0) (by omega) h1
        have h3 := Bk_le (b := b) (k := min (r.length - 1) (n - 1)) (n := n) (by omega) hbn
        exact up2 h2 (by omega)
theorem rst_ok {f g : L} (f0 : 2 ≤ f.length) (f1 : f.length ≤ 10) (g1 : g.length ≤ 20) (bf : Bn 100 f) (bg : Bn 200 g) (i : Nat) : (rst f g i).length ≤ f.length - 1 ∧ Bn (5000 + i * 202) (rst f g i) := by
  induction i with
  | zero =>
    refine ⟨dv_len _ _, (dv_bn bg bf (by omega)).mono ?_⟩
    have : (g.length + 1 - f.length) * (100 + 1) ≤ 21 * 101 := Nat.mul_le_mul_right _ (by omega)
    omega
  | succ i ih =>
    have e : rst f g (i + 1) = (dv (0 :: rst f g i) f).2 := rfl
    rw [e]
    refine ⟨dv_len _ _, (dv_bn ih.2.cons0 bf (by omega)).mono ?_⟩
    have : ((0 :: rst f g i).length + 1 - f.length) * (100 + 1) ≤ 1 * 101 := Nat.mul_le_mul_right _ (by rw [List.length_cons]; omega)
    omega
section
variable {P : Program} {w : World} {K : PySem.W.Frag} {mg : Str → Option Value} {base : Heap}
/-! ### resultant -/
abbrev s_resultant : Stmt := top 27
theorem sc_resultant : FnScope ["f", "g", "n", "rows", "rest", "i", "j"] ["f", "g"] (defScope s_resultant) := ⟨rfl, rfl, rfl, by decide +kernel, rfl, by decide +kernel, by decide +kernel⟩
  -- slots 0:f 1:g 2:n 3:rows 4:rest 5:i 6:j
structure RePre (x : L × L × Unit) : Prop where
  f0 : 2 ≤ x.1.length
  f1 : x.1.length ≤ 10
  g1 : x.2.1.length ≤ 20
  bf : Bn 100 x.1
  bg : Bn 200 x.2.1
  d : DetOk (resTab x.1 x.2.1 (x.1.length - 1) (x.1.length - 1)) (x.1.length - 1)
abbrev sp_resultant : Sp := SpF RePre fun x : L × L × Unit => res x.1 x.2.1
theorem ok_resultant (T : Tx mg) (D_determinant : Df P w K mg base "determinant" 2 ["table"] sp_determinant) (D_divided : Df P w K mg base "divided" 2 ["f", "g"] sp_divided) (D_number_at : Df P w K mg base "number_at" 1 ["f", "k"] sp_number_at) {f : Addr} {fd : FuncData} (F : Fun K "resultant" "resultant" s_resultant f fd) : FnOk P w K mg base CX0 3 f fd ["f", "g"] sp_resultant := by
  refine F.ok sc_resultant (fun vs H Q E h => SpF.len h) (fun cdv A outer s H vs Q E hr h => ?_)
  obtain ⟨G, ⟨ff, g, _⟩, e, ⟨u, _, rfl, hf, v, _, rfl, hg, rfl⟩, ⟨f0, f1, g1, bf, bg, hd⟩, q⟩ := h
  dsimp only at hf hg q f0 f1 g1 bf bg hd
  obtain ⟨f_determinant, fd_determinant, g_determinant, m_determinant, k_determinant, b_determinant⟩ := D_determinant
  have hr_determinant : Room 2 _ := hr.mono (by decide)
  obtain ⟨f_divided, fd_divided, g_divided, m_divided, k_divided, b_divided⟩ := D_divided
  have hr_divided : Room 2 _ := hr.mono (by decide)
  obtain ⟨f_number_at, fd_number_at, g_number_at, m_number_at, k_number_at, b_number_at⟩ := D_number_at
  have hr_number_at : Room 1 _ := hr.mono (by decide)
  refine ⟨_, (pss_cons (ps_set (i := 2) sc_resultant.nd rfl (Or.inl rfl) (pe_op op_sub (pe_callB (lenK (K := K)) (by rfl) T.b_len PySem.boot_len (pa_cons (pv 0) pa_nil)) pe_int))
      (pss_cons (ps_set (i := 3) sc_resultant.nd rfl (Or.inl rfl) (pe_lst pa_nil))
      (pss_cons (ps_set (i := 4) sc_resultant.nd rfl (Or.inr rfl) (pe_ix (ixT (K := K)) (pe_call g_divided hr_divided rfl m_divided k_divided b_divided .nil pass0 (pa_cons (pv 1) (pa_cons (pv 0) pa_nil))) pe_int (fun _ _ => rfl)))
      (pss_cons (ps_for PassesOwn.never rfl (pi_range1 rfl T.b_range (pa_cons (pv 2) pa_nil)) (pg_name (i := 5) sc_resultant.nd rfl (Or.inl rfl)) (pss_cons (ps_expr (pe_bm PySem.F.plainAttrs_list PySem.F.slot_list_append PySem.F.type_list_append mt_append (pv 3) (pa_cons (pe_lc (own := [("j", 6)]) (tt := tYes) rfl sc_resultant.nd (pi_range1 rfl T.b_range (pa_cons (pv 2) pa_nil)) (blkOk_by (N := ["f", "g", "n", "rows", "rest", "i", "j"]) (sc := defScope s_resultant) (by decide +kernel)) (fun _ _ _ _ _ => (pg_name (i := 6) sc_resultant.nd rfl (Or.inl rfl))) (fun _ _ _ _ _ => pts_nil) (fun _ _ _ _ _ => (pe_call g_number_at hr_number_at rfl m_number_at k_number_at b_number_at .nil pass0 (pa_cons (pv 4) (pa_cons (pv 6) pa_nil))))) pa_nil)))
      (pss_one (ps_set (i := 4) sc_resultant.nd rfl (Or.inr rfl) (pe_ix (ixT (K := K)) (pe_call g_divided hr_divided rfl m_divided k_divided b_divided .nil pass0 (pa_cons (pe_op op_cat (pe_lst (pa_cons pe_int pa_nil)) (pv 4)) (pa_cons (pv 0) pa_nil))) pe_int (fun _ _ => rfl))))))
      (pss_one (ps_ret (pe_call g_determinant hr_determinant rfl m_determinant k_determinant b_determinant .nil pass0 (pa_cons (pv 3) pa_nil)))))))), ?_⟩
  have F0 := Fr.start e
  obtain ⟨n, hn⟩ : ∃ n, ff.length = n + 1 := ⟨ff.length - 1, by omega⟩
  have hn1 : ff.length - 1 = n := by omega
  refine st_setI F0 ((ev_I0 (ev_len (ev_var rfl hf)) (ev_int (i := 1))).cast (y := (n : Int)) (by omega)) fun G1 H1 F1 e1 => ?_
  refine st_setL F1 (el_nil (α := L)) fun lr vs0 G2 H2 F2 e2 d0 => ?_
  cases d0
  have rk := fun i => rst_ok f0 f1 g1 bf bg i
  refine st_set F2 (ev_snd (ev_call (Pre := DivPre) (F := fun x : L × L × Unit => dv x.1 x.2.1) (x := (g, ff, ())) (ea_cons (ev_var rfl (Den.mono (e1.trans e2) hg)) (ea_cons (ev_var rfl (Den.mono (e1.trans e2) hf)) ea_nil)) ⟨by dsimp only; omega, by dsimp only; omega, by dsimp only; omega, 200, 100, bg, bf, ?_⟩) (ev_int (i := 1))) fun vr G3 H3 F3 e3 d3 => ?_
  · dsimp only
    have : (g.length + 2 - ff.length) * (100 + 1) ≤ 22 * 101 := Nat.mul_le_mul_right _ (by omega)
    omega
  refine st_seq ?_
  refine st_for1 F3 (ea_cons (ev_var (x := (n : Int)) rfl rfl) ea_nil) (by omega) (by omega)
    (fun i σ H' => ∃ G' vs vr ii j, Fr G H G' ((lr, vs) :: []) H' ∧ Paired (Den.D G') vs (resTab ff g n i) ∧ Den.D G' vr (rst ff g i) ∧ σ = [some u, some v, some (.int (n : Int)), some (.ref lr), some vr, ii, j])
    (fun G4 H4 F4 e4 => ⟨G4, [], vr, none, none, F4, .nil, Den.mono e4 d3, rfl⟩) ?_ ?_
  · rintro i σ H4 hi ⟨G4, vs, vr, ii, j, F4, hvs, dr, rfl⟩
    obtain ⟨r1, r2⟩ := rk i
    refine st_seq (st_app F4 rfl (x := tab n (at_ (rst ff g i))) (EvL.ev (el_lcR (n := (n : Int)) (ys := tab n (at_ (rst ff g i))) (ea_cons (ev_var rfl rfl) ea_nil) (by rw [len_tab]; simp) (by omega) (by omega) (fun _ => rfl) fun j y' G'' e'' hy' => ?_)) (by rw [Paired.len hvs]; simp [resTab]; omega) fun v5 G5 H5 F5 e5 d5 => ?_)
    · obtain ⟨hj, rfl⟩ := range_at hy'
      exact ev_call (Pre := NaPre) (F := fun x : L × Int × Unit => at_ x.1 x.2.1.toNat) (x := (rst ff g i, (j : Int), ())) (ea_cons (ev_var rfl (Den.mono e'' dr)) (ea_cons (ev_var rfl rfl) ea_nil)) (by show (0 : Int) ≤ j; omega)
    · refine st_set F5 (ev_snd (ev_call (Pre := DivPre) (F := fun x : L × L × Unit => dv x.1 x.2.1) (x := ([0] ++ rst ff g i, ff, ())) (ea_cons (EvL.ev (el_cat (EvL.ev (el_one (ev_int (i := 0)))) (ev_var rfl (Den.mono e5 dr)) (by show 1 + _ ≤ _; omega))) (ea_cons (ev_var rfl (Den.mono F5.s.g hf)) ea_nil)) ⟨by simp; omega, by dsimp only; omega, by dsimp only; omega, 5000 + i * 202, 100, r2.cons0, bf, ?_⟩) (ev_int (i := 1))) fun v6 G6 H6 F6 e6 d6 => ?_
      · dsimp only
        have : (([0] ++ rst ff g i).length + 2 - ff.length) * (100 + 1) ≤ 2 * 101 := Nat.mul_le_mul_right _ (by simp; omega)
        omega
      · refine ⟨G6, vs ++ [v5], v6, _, _, F6, ?_, d6, rfl⟩
        have : resTab ff g n (i + 1) = resTab ff g n i ++ [tab n (at_ (rst ff g i))] := by
          unfold resTab; rw [List.range_succ, List.map_append]; rfl
        rw [this]
        exact Paired.app (Paired.imp (fun _ _ z => Den.mono (e5.trans e6) z) hvs) (.cons (Den.mono e6 d5) .nil)
  · rintro σ H4 ⟨G4, vs, vr, ii, j, F4, hvs, dr, rfl⟩
    rw [Int.toNat_natCast] at hvs
    obtain ⟨G5, F5, e5, d5⟩ := F4.frozen hvs
    rw [hn1] at hd
    have hl : (resTab ff g n n).length = n := by simp [resTab]
    refine st_ret F5 (ev_call (Pre := DePre) (F := fun x : LL × Unit => det x.1) (x := (resTab ff g n n, ())) (ea_cons (ev_var rfl d5) ea_nil) (by show DetOk (resTab ff g n n) (resTab ff g n n).length; rw [hl]; exact hd)) fun v7 G7 H7 s7 d7 => q v7 G7 H7 s7 ?_
    unfold res; rw [hn1]; exact d7
/-! ### discriminant -/
abbrev s_discriminant : Stmt := top 28
theorem sc_discriminant : FnScope ["f", "n"] ["f"] (defScope s_discriminant) := ⟨rfl, rfl, rfl, by decide +kernel, rfl, by decide +kernel, by decide +kernel⟩
  -- slots 0:f 1:n
structure DiPre (x : L × Unit) : Prop where
  f0 : 2 ≤ x.1.length
  f1 : x.1.length ≤ 10
  bf : Bn 100 x.1
  d : DetOk (resTab x.1 (deriv x.1) (x.1.length - 1) (x.1.length - 1)) (x.1.length - 1)
abbrev sp_discriminant : Sp := SpF DiPre fun x : L × Unit => disc x.1
theorem deriv_bn {f : L} {a : Nat} (h : Bn a f) (hl : f.length ≤ 16) : Bn (a + 4) (deriv f) ∧ (deriv f).length ≤ f.length := by
  unfold deriv
  refine ⟨Bn.trim fun k => ?_, Nat.le_trans (trim_le _) (by rw [len_tab]; omega)⟩
  rw [at_tab]
  split
  · have : ((k : Int) + 1).natAbs ≤ 2 ^ 4 := by omega
    exact up2 (natAbs_mul_le this (h (k + 1))) (by omega)
  · exact Nat.zero_le _
theorem ok_discriminant (T : Tx mg) (D_resultant : Df P w K mg base "resultant" 3 ["f", "g"] sp_resultant) (D_derived : Df P w K mg base "derived" 2 ["f"] sp_derived) {f : Addr} {fd : FuncData} (F : Fun K "discriminant" "discriminant" s_discriminant f fd) : FnOk P w K mg base CX0 4 f fd ["f"] sp_discriminant := by
  refine F.ok sc_discriminant (fun vs H Q E h => SpF.len h) (fun cdv A outer s H vs Q E hr h => ?_)
  obtain ⟨G, ⟨ff, _⟩, e, ⟨u, _, rfl, hf, rfl⟩, ⟨f0, f1, bf, hd⟩, q⟩ := h
  dsimp only at hf q f0 f1 bf hd
  obtain ⟨f_resultant, fd_resultant, g_resultant, m_resultant, k_resultant, b_resultant⟩ := D_resultant
  have hr_resultant : Room 3 _ := hr.mono (by decide)
  obtain ⟨f_derived, fd_derived, g_derived, m_derived, k_derived, b_derived⟩ := D_derived
  have hr_derived : Room 2 _ := hr.mono (by decide)
  refine ⟨_, (pss_cons (ps_set (i := 1) sc_discriminant.nd rfl (Or.inl rfl) (pe_op op_sub (pe_callB (lenK (K := K)) (by rfl) T.b_len PySem.boot_len (pa_cons (pv 0) pa_nil)) pe_int))
      (pss_one (ps_ret (pe_op op_mulW (pe_call g_resultant hr_resultant rfl m_resultant k_resultant b_resultant .nil pass0 (pa_cons (pv 0) (pa_cons (pe_call g_derived hr_derived rfl m_derived k_derived b_derived .nil pass0 (pa_cons (pv 0) pa_nil)) pa_nil))) (pe_op op_sub pe_int (pe_op op_mulW pe_int (pe_op op_mod (pe_op op_fdivZ (pe_op op_mulW (pv 1) (pe_op op_sub (pv 1) pe_int)) pe_int) pe_int))))))), ?_⟩
  have F0 := Fr.start e
  obtain ⟨bd, ld⟩ := deriv_bn bf (by omega)
  obtain ⟨n, hn⟩ : ∃ n, ff.length = n + 1 := ⟨ff.length - 1, by omega⟩
  have hn1 : ff.length - 1 = n := by omega
  refine st_setI F0 ((ev_I0 (ev_len (ev_var rfl hf)) (ev_int (i := 1))).cast (y := (n : Int)) (by omega)) fun G1 H1 F1 e1 => ?_
  have hm0 := Int.emod_nonneg ((n : Int) * ((n : Int) - 1) / 2) (show (2 : Int) ≠ 0 by decide)
  have hm1 := Int.emod_lt_of_pos ((n : Int) * ((n : Int) - 1) / 2) (show (0 : Int) < 2 by decide)
  have hn9 : (n : Int) ≤ 9 := by omega
  refine st_ret F1 (ev_I (ev_call (Pre := RePre) (F := fun x : L × L × Unit => res x.1 x.2.1) (x := (ff, deriv ff, ())) (ea_cons (ev_var rfl (Den.mono e1 hf)) (ea_cons (ev_call (Pre := DerPre) (F := fun x : L × Unit => deriv x.1) (x := (ff, ())) (ea_cons (ev_var rfl (Den.mono e1 hf)) ea_nil) ⟨by dsimp only; omega, 100, bf, by decide⟩) ea_nil)) ⟨f0, f1, by dsimp only; omega, bf, bd.mono (by decide), hd⟩)
    (ev_I0 (ev_int (i := 1)) (ev_I (i := 2) (j := (n : Int) * ((n : Int) - 1) / 2 % 2) ev_int (ev_I ((ev_I (ev_I (ev_var (x := (n : Int)) rfl rfl) (ev_I0 (ev_var (x := (n : Int)) rfl rfl) (ev_int (i := 1))) (cmul (a := 4) (b := 4) (by omega) (by omega) (by decide))) (ev_int (i := 2)) (cdivS (by decide) (by decide))).cast (fdivE (by decide))) (ev_int (i := 2)) (by show (0 : Int) < 2; decide)) (cmul (a := 2) (b := 2) (by decide) (by omega) (by decide)))) (cmul (a := 72000) (b := 3) (det_bn hd) (by omega) (by decide))) fun v7 G7 H7 s7 d7 => q v7 G7 H7 s7 ?_
  unfold disc
  rw [hn1]; exact d7
end
end Bw
set_option Elab.async false
set_option linter.all false
set_option maxRecDepth 100000
set_option maxHeartbeats 4000000
namespace Bw
open PySem L2 Bd
/-! ### things of any kind -/
inductive El where
  | int (i : Int) | bl (b : Bool) | non | str (s : Str) | li (xs : L) | tu (xs : L)
instance dEl : Den El := ⟨fun H v x => match x with
    | .int i => v = .int i | .bl b => v = .bl b | .non => v = .non | .str s => v = .str s
    | .li xs => ∃ a, v = .ref a ∧ H a = some (.lst (xs.map V.int)) | .tu xs => ∃ a, v = .ref a ∧ H a = some (.tup (xs.map V.int)),
  fun {H H' v x} e h => match x, h with
    | .int _, h => h | .bl _, h => h | .non, h => h | .str _, h => h
    | .li _, ⟨a, h1, h2⟩ => ⟨a, h1, e _ _ h2⟩ | .tu _, ⟨a, h1, h2⟩ => ⟨a, h1, e _ _ h2⟩⟩
def El.ty : El → String
  | .int _ => "int" | .bl _ => "bool" | .non => "NoneType" | .str _ => "str" | .li _ => "list" | .tu _ => "tuple"
def El.whole : El → Bool
  | .int _ => true | _ => false
def El.isInt : El → Bool
  | .int _ => true | .bl _ => true | _ => false
def El.isBl : El → Bool
  | .bl _ => true | _ => false
def El.isLi : El → Bool
  | .li _ => true | _ => false
theorem El.tyx {K : PySem.W.Frag} {H : Hp} {v : V} {x : El} (d : Den.D H v x) : TyX K H v (.type x.ty) := by
  cases x with
  | int i => obtain rfl : v = V.int i := d; exact .base (.int _)
  | bl i => obtain rfl : v = V.bl i := d; exact .base (.bl _)
  | non => obtain rfl : v = V.non := d; exact .base .non
  | str i => obtain rfl : v = V.str i := d; exact .base (.str _)
  | li xs => obtain ⟨a, rfl, h⟩ := d; exact .base (.lst h)
  | tu xs => obtain ⟨a, rfl, h⟩ := d; exact .base (.tup h)
section
variable {K : PySem.W.Frag} {σ : L2.St} {G : Hp} {L : Ls}
theorem ev_isi {ta : TE} {x : El} {n : String} {r : Bool} (ha : Ev ta σ G L x) (h : kitB x.ty n = some r) : Ev (tCB (rIsi K) (tCons ta (tCons (tC (.ty n)) tNil))) σ G L r := fun G1 H1 e o Q q =>
  ha G1 H1 e o _ fun v G2 H2 s2 d2 => ⟨v, .ty n, .type x.ty, .type n, r, rfl, .ty n, El.tyx (Den.mono s2.i d2), kit_ty h, q _ G2 H2 s2 rfl⟩
theorem kit_int (x : El) : kitB x.ty "int" = some x.isInt := by
  cases x with
  | int i => exact (by decide +kernel : kitB "int" "int" = some true)
  | bl b => exact (by decide +kernel : kitB "bool" "int" = some true)
  | non => exact (by decide +kernel : kitB "NoneType" "int" = some false)
  | str s => exact (by decide +kernel : kitB "str" "int" = some false)
  | li xs => exact (by decide +kernel : kitB "list" "int" = some false)
  | tu xs => exact (by decide +kernel : kitB "tuple" "int" = some false)
theorem kit_bool (x : El) : kitB x.ty "bool" = some x.isBl := by
  cases x with
  | int i => exact (by decide +kernel : kitB "int" "bool" = some false)
  | bl b => exact (by decide +kernel : kitB "bool" "bool" = some true)
  | non => exact (by decide +kernel : kitB "NoneType" "bool" = some false)
  | str s => exact (by decide +kernel : kitB "str" "bool" = some false)
  | li xs => exact (by decide +kernel : kitB "list" "bool" = some false)
  | tu xs => exact (by decide +kernel : kitB "tuple" "bool" = some false)
theorem kit_list (x : El) : kitB x.ty "list" = some x.isLi := by
  cases x with
  | int i => exact (by decide +kernel : kitB "int" "list" = some false)
  | bl b => exact (by decide +kernel : kitB "bool" "list" = some false)
  | non => exact (by decide +kernel : kitB "NoneType" "list" = some false)
  | str s => exact (by decide +kernel : kitB "str" "list" = some false)
  | li xs => exact (by decide +kernel : kitB "list" "list" = some true)
  | tu xs => exact (by decide +kernel : kitB "tuple" "list" = some false)
end
def prs : L := [2, 3, 5, 7, 11, 13, 17, 19, 23, 29, 31, 37, 41, 43, 47]
/-- the constants -/
structure Cs (K : PySem.W.Frag) (mg : Str → Option Value) where
  pr : Addr
  u1 : Value
  u2 : Value
  u3 : Value
  u4 : Value
  PRIMES : RelV (.ref pr) (.ref pr) ∧ mg "PRIMES" = some (.ref pr)
  GREATEST_DEGREE : RelV (.int 12) u1 ∧ mg "GREATEST_DEGREE" = some u1
  GREATEST_SIZE : RelV (.int 40) u2 ∧ mg "GREATEST_SIZE" = some u2
  MOST_DEGREE : RelV (.int 6) u3 ∧ mg "MOST_DEGREE" = some u3
  MOST_SIZE : RelV (.int 24) u4 ∧ mg "MOST_SIZE" = some u4
  ps : ∀ H, SqT K H pr (prs.map V.int)
def El.prime : El → Bool
  | .int i => prs.any fun y => y == i
  | _ => false
section
variable {P : Program} {w : World} {K : PySem.W.Frag} {mg : Str → Option Value} {base : Heap}
/-! ### is_whole -/
abbrev s_is_whole : Stmt := top 12
theorem sc_is_whole : FnScope ["thing"] ["thing"] (defScope s_is_whole) := ⟨rfl, rfl, rfl, by decide +kernel, rfl, by decide +kernel, by decide +kernel⟩
  -- slots 0:thing
def TrueP {X : Type} (_ : X) : Prop := True
abbrev sp_is_whole : Sp := SpF TrueP fun x : El × Unit => x.1.whole
theorem ok_is_whole (T : Tx mg)  {f : Addr} {fd : FuncData} (F : Fun K "is_whole" "is_whole" s_is_whole f fd) : FnOk P w K mg base CX0 1 f fd ["thing"] sp_is_whole := by
  refine F.ok sc_is_whole (fun vs H Q E h => SpF.len h) (fun cdv A outer s H vs Q E hr h => ?_)
  obtain ⟨G, ⟨x, _⟩, e, ⟨u, _, rfl, hx, rfl⟩, _, q⟩ := h
  dsimp only at hx q
  
  refine ⟨_, (pss_one (ps_ret (pe_and (pe_callB call_isi (by rfl) T.b_isinstance (by decide +kernel) (pa_cons (pv 0) (pa_cons (pe_bltn (v := .ty "int") (u := .type "int") (by rfl) T.b_int (by decide +kernel) rfl) pa_nil))) (pe_one (pe_not (pe_callB call_isi (by rfl) T.b_isinstance (by decide +kernel) (pa_cons (pv 0) (pa_cons (pe_bltn (v := .ty "bool") (u := .type "bool") (by rfl) T.b_bool (by decide +kernel) rfl) pa_nil)))))))), ?_⟩
  have F0 := Fr.start e
  refine st_ret F0 (ev_andV (ev_isi (ev_var rfl hx) (kit_int x)) fun _ => ev_notV (ev_isi (ev_var rfl hx) (kit_bool x))) fun v G3 H3 s3 d3 => q v G3 H3 s3 ?_
  have : x.whole = (x.isInt && !x.isBl) := by cases x <;> rfl
  rw [this]; exact d3
/-! ### is_prime -/
abbrev s_is_prime : Stmt := top 13
theorem sc_is_prime : FnScope ["thing"] ["thing"] (defScope s_is_prime) := ⟨rfl, rfl, rfl, by decide +kernel, rfl, by decide +kernel, by decide +kernel⟩
  -- slots 0:thing
abbrev sp_is_prime : Sp := SpF TrueP fun x : El × Unit => x.1.prime
theorem ok_is_prime (T : Tx mg) (CS : Cs K mg) (D_is_whole : Df P w K mg base "is_whole" 1 ["thing"] sp_is_whole) {f : Addr} {fd : FuncData} (F : Fun K "is_prime" "is_prime" s_is_prime f fd) : FnOk P w K mg base CX0 2 f fd ["thing"] sp_is_prime := by
  refine F.ok sc_is_prime (fun vs H Q E h => SpF.len h) (fun cdv A outer s H vs Q E hr h => ?_)
  obtain ⟨G, ⟨x, _⟩, e, ⟨u, _, rfl, hx, rfl⟩, _, q⟩ := h
  dsimp only at hx q
  obtain ⟨f_is_whole, fd_is_whole, g_is_whole, m_is_whole, k_is_whole, b_is_whole⟩ := D_is_whole
  have hr_is_whole : Room 1 _ := hr.mono (by decide)
  refine ⟨_, (pss_one (ps_ret (pe_and (pe_call g_is_whole hr_is_whole rfl m_is_whole k_is_whole b_is_whole .nil pass0 (pa_cons (pv 0) pa_nil)) (pe_one (pe_cmpR op_in_seq (pv 0) (pe_glob rfl CS.PRIMES.2 CS.PRIMES.1) (by rfl)))))), ?_⟩
  have F0 := Fr.start e
  refine st_ret F0 (ev_andV (ev_call (Pre := TrueP) (F := fun x : El × Unit => x.1.whole) (x := (x, ())) (ea_cons (ev_var rfl hx) ea_nil) trivial) (b := x.prime) fun hw => ?_) fun v G3 H3 s3 d3 => q v G3 H3 s3 ?_
  · cases x with
    | int i =>
      obtain rfl : u = V.int i := hx
      intro G1 H1 e1 o Q1 q1
      refine ⟨_, rfl, CS.pr, prs.map V.int, rfl, .inr (CS.ps _), rfl, rfl, q1 _ G1 H1 (Step.refl o.i) ?_⟩
      show V.bl _ = V.bl _
      congr 1
    | _ => cases hw
  · have : x.prime = (x.whole && x.prime) := by cases x <;> rfl
    rw [this]; exact d3
/-! ### is_polynomial -/
inductive Fi where
  | el (e : El) | ls (xs : List El)
instance dFi : Den Fi := ⟨fun H v x => match x with | .el e => Den.D H v e | .ls xs => Den.D H v xs, fun {H H' v x} e h => match x, h with | .el _, h => Den.mono e h | .ls _, h => Den.mono e h⟩
def Fi.poly : Fi → Bool
  | .el _ => false
  | .ls xs => xs.all El.whole && (match xs.getLast? with | none => true | some (.int i) => decide (i ≠ 0) | some _ => false)
def Fi.ok : Fi → Prop
  | .el e => e.isLi = false
  | .ls xs => xs.length ≤ 1000
def Fi.isLi : Fi → Bool
  | .el e => e.isLi | .ls _ => true
theorem wholes : ∀ {xs : List El}, xs.all El.whole = true → ∃ f : L, xs = f.map El.int
  | [], _ => ⟨[], rfl⟩
  | x :: xs, h => by
    rw [List.all_cons, Bool.and_eq_true] at h
    obtain ⟨f, rfl⟩ := wholes h.2
    cases x with
    | int i => exact ⟨i :: f, rfl⟩
    | _ => cases h.1
theorem d_els {H : Hp} {vs : List V} {f : L} (h : Paired (Den.D H) vs (f.map El.int)) : Paired (Den.D H) vs f := by
  induction f generalizing vs with
  | nil => cases h; exact .nil
  | cons i f ih => cases h with
    | cons r t => exact .cons r (ih t)
theorem d_elsB {H : Hp} {v : V} {f : L} (h : Den.D H v (f.map El.int : List El)) : Den.D H v f := by
  obtain ⟨a, vs, h1, h2, h3⟩ := h
  exact ⟨a, vs, h1, h2, d_els h3⟩
abbrev s_is_polynomial : Stmt := top 18
theorem sc_is_polynomial : FnScope ["thing", "one"] ["thing"] (defScope s_is_polynomial) := ⟨rfl, rfl, rfl, by decide +kernel, rfl, by decide +kernel, by decide +kernel⟩
  -- slots 0:thing 1:one
abbrev sp_is_polynomial : Sp := SpF (fun x : Fi × Unit => x.1.ok) fun x : Fi × Unit => x.1.poly
theorem ev_isiF {K : PySem.W.Frag} {σ : L2.St} {G : Hp} {L : Ls} {ta : TE} {x : Fi} (ha : Ev ta σ G L x) : Ev (tCB (rIsi K) (tCons ta (tCons (tC (.ty "list")) tNil))) σ G L x.isLi := by
  cases x with
  | el e => exact ev_isi (x := e) ha (kit_list e)
  | ls xs =>
    exact fun G1 H1 e o Q q => ha G1 H1 e o _ fun v G2 H2 s2 d2 => by
      obtain ⟨a, vs, rfl, h1, h2⟩ := d2
      exact ⟨.ref a, .ty "list", .type "list", .type "list", true, rfl, .ty "list", .base (.lst (s2.i _ _ h1)), kit_ty (by decide +kernel), q _ G2 H2 s2 rfl⟩
theorem ok_is_polynomial (T : Tx mg) (D_is_whole : Df P w K mg base "is_whole" 1 ["thing"] sp_is_whole) {f : Addr} {fd : FuncData} (F : Fun K "is_polynomial" "is_polynomial" s_is_polynomial f fd) : FnOk P w K mg base CX0 2 f fd ["thing"] sp_is_polynomial := by
  refine F.ok sc_is_polynomial (fun vs H Q E h => SpF.len h) (fun cdv A outer s H vs Q E hr h => ?_)
  obtain ⟨G, ⟨x, _⟩, e, ⟨u, _, rfl, hx, rfl⟩, hok, q⟩ := h
  dsimp only at hx q hok
  obtain ⟨f_is_whole, fd_is_whole, g_is_whole, m_is_whole, k_is_whole, b_is_whole⟩ := D_is_whole
  have hr_is_whole : Room 1 _ := hr.mono (by decide)
  refine ⟨_, (pss_cons (ps_if (PW.pt (pw_or (pt_not (pt_val (pe_callB call_isi (by rfl) T.b_isinstance (by decide +kernel) (pa_cons (pv 0) (pa_cons (pe_bltn (v := .ty "list") (u := .type "list") (by rfl) T.b_list (by decide +kernel) rfl) pa_nil))))) (pw_or1 (pt_not (pt_val (pe_callB (cr_all rfl) (by rfl) T.b_all (by decide +kernel) (pa_cons (pe_lc (own := [("one", 1)]) (tt := tYes) rfl sc_is_polynomial.nd (pi_listK (K := K) (pv 0)) (blkOk_by (N := ["thing", "one"]) (sc := defScope s_is_polynomial) (by decide +kernel)) (fun _ _ _ _ _ => (pg_name (i := 1) sc_is_polynomial.nd rfl (Or.inl rfl))) (fun _ _ _ _ _ => pts_nil) (fun _ _ _ _ _ => (pe_call g_is_whole hr_is_whole rfl m_is_whole k_is_whole b_is_whole .nil pass0 (pa_cons (pv 1) pa_nil)))) pa_nil))))))) (pss_one (ps_ret pe_bl)) pss_nil)
      (pss_one (ps_ret (pe_or (pe_cmpR (op_eqD hr.units) (pv 0) (pe_lst pa_nil) (nomark _)) (pe_one (pe_cmpR op_ne (pe_ix (ixL (K := K)) (pv 0) (pe_un un_neg pe_int) (fun _ _ => rfl)) pe_int (nomark _))))))), ?_⟩
  have F0 := Fr.start e
  refine st_if F0 (b := match x with | .el _ => true | .ls xs => !xs.all El.whole) (EvT.cast (et_or (et_not (et_test (ev_isiF (ev_var rfl hx)))) (b := match x with | .el _ => true | .ls xs => !xs.all El.whole) fun hb => ?_) ?_) (fun hb G1 H1 F1 e1 => ?_) (fun hb G1 H1 F1 e1 => ?_)
  · cases x with
    | el e =>
      have : e.isLi = false := hok
      have hb : (!e.isLi) = false := hb
      rw [this] at hb; cases hb
    | ls xs =>
      have hx : Den.D G u xs := hx
      have hok : xs.length ≤ 1000 := hok
      refine et_not (et_test ((ev_allB (bs := xs.map El.whole) (EvL.ev (el_lc (xs := xs) (ev_var rfl hx) (by simp) (by omega) fun i a b va G' e' ha hb' da => tn_name rfl ?_))).cast (by rw [List.all_map]; rfl)))
      rw [map_at ha hb']
      exact ev_call (Pre := TrueP) (F := fun x : El × Unit => x.1.whole) (x := (a, ())) (ea_cons (ev_var rfl da) ea_nil) trivial
  · cases x with
    | el e => have : e.isLi = false := hok
              show (!e.isLi || true) = true
              rw [this]; rfl
    | ls xs => rfl
  · refine st_ret F1 (ev_bl (b := false)) fun v G3 H3 s3 d3 => q v G3 H3 s3 ?_
    have : x.poly = false := by
      cases x with
      | el e => rfl
      | ls xs =>
        have hb : xs.all El.whole = false := by simpa using hb
        show (xs.all El.whole && _) = false
        rw [hb]; rfl
    rw [this]; exact d3
  · refine nxt ?_
    dsimp only
    cases x with
    | el e => cases hb
    | ls xs =>
      have hb : xs.all El.whole = true := by simpa using hb
      obtain ⟨f, rfl⟩ := wholes hb
      have hf : Den.D G1 u f := Den.mono e1 (d_elsB hx)
      have hpoly : (Fi.ls (f.map El.int)).poly = (decide (f = []) || decide (at_ f (f.length - 1) ≠ 0)) := by
        show (_ && _) = _
        rw [hb, Bool.true_and, List.getLast?_map]
        cases hl : f.getLast? with
        | none => rw [List.getLast?_eq_none_iff] at hl; subst hl; rfl
        | some i =>
          rw [List.getLast?_eq_getElem?] at hl
          have h1 : at_ f (f.length - 1) = i := at_of hl
          have h2 : f ≠ [] := fun z => by subst z; cases hl
          simp [h1, h2]
      refine st_ret F1 (ev_orV (ev_eqnil (ev_var rfl hf) (by decide)) (b := decide (at_ f (f.length - 1) ≠ 0)) fun hne => ?_) fun v G3 H3 s3 d3 => q v G3 H3 s3 (by rw [hpoly]; exact d3)
      have hne : f ≠ [] := of_decide_eq_false hne
      have hpos : 0 < f.length := by
        rcases Nat.eq_zero_or_pos f.length with c | c
        · exact absurd (List.length_eq_zero_iff.mp c) hne
        · exact c
      exact (ev_neI (ev_ixm (x := at_ f (f.length - 1)) (ev_var rfl hf) (ev_neg ev_int) (getD_some (by omega))) (ev_int (i := 0))).cast (by simp)
end
end Bw
set_option Elab.async false
set_option linter.all false
set_option maxRecDepth 100000
set_option maxHeartbeats 4000000
namespace Bw
open PySem L2 Bd
/-- the rule for a def that may raise where nothing is handled -/
theorem okXN {P : Program} {w : World} {K : PySem.W.Frag} {mg : Str → Option Value} {base : Heap} {x qual : Str} {st : Stmt} {f : Addr} {fd : FuncData} {N ps : List Str} {k : Nat} {sp : Sp} (F : Fun K x qual st f fd) (S : FnScope N ps (defScope st)) (len : ∀ vs H Q E, sp vs H Q E → vs.length = ps.length)
    (hbody : ∀ (cdv : Value) (A : Around) (outer : List Env) (s : Shared) (H : Hp) (vs : List V) (Q : VK) (E : XK), Room k (A.deeper (PyProof.Rows.envOfC qual (defScope st) s.heap.objs.size f cdv)) → sp vs H Q E →
      ∃ t, PSs (cxOf (L2N.CX P w) P w K mg base N qual (defScope st) f cdv A outer s H E) (defBody st) t ∧ t { nx := fun _ H' => Q .non H', rt := Q } (L2.start N vs) H) : FnOk P w K mg base (L2N.CX P w) (k + 1) f fd ps sp := by
  obtain ⟨oc, od, kV, doc, pm, an, cdv, ct, osl, rfl, lk, hcd⟩ := F.ex
  exact fn_of lk hcd S len fun A outer s H vs Q E hr hsp => hbody cdv A outer s H vs Q E hr hsp
/-- an own class of refusals -/
structure Xc (K : PySem.W.Frag) (mg : Str → Option Value) (x : Str) (C : Addr) : Prop where
  q : PySem.W.excIn K C [Value.type "ValueError", Value.type "Exception", Value.type "BaseException", Value.type "object"] "ValueError.__new__" = true
  gC : mg x = some (.ref C)
  kC : PySem.W.keepIn K (.ref C) = true
  exC : PySem.W.subIn K (.ref C) (.type "BaseException") = some true
  tyC : PySem.W.typeIn K (.ref C) = some (.type "type")
/-- the four classes -/
structure Four where
  pr : Addr
  po : Addr
  pl : Addr
  de : Addr
def DfX (P : Program) (w : World) (K : PySem.W.Frag) (mg : Str → Option Value) (base : Heap) (x : Str) (k : Nat) (ps : List Str) (sp : Sp) : Prop :=
  ∃ f fd, FnOk P w K mg base (L2N.CX P w) k f fd ps sp ∧ mg x = some (.ref f) ∧ PySem.W.keepIn K (.ref f) = true ∧ Binds K fd ps []
def Fi.good : Fi → Bool
  | .el _ => false
  | .ls xs => (Fi.ls xs).poly && (decide (2 ≤ xs.length) && decide (xs.length ≤ 13)) && (match xs.getLast? with | some (.int i) => decide (i = 1) | _ => false)
theorem ev_chainLe {σ : L2.St} {G : Hp} {L : Ls} {ta tb tc : TE} {a b c : Int} (ha : Ev ta σ G L a) (hb : Ev tb σ G L b) (hc : Ev tc σ G L c) : Ev (tChain (rI0 fun i j => .bl (decide (i ≤ j))) (rI0 fun i j => .bl (decide (i ≤ j))) ta tb tc) σ G L (decide (a ≤ b) && decide (b ≤ c)) := fun G1 H1 e o Q q =>
  ha G1 H1 e o _ fun v G2 H2 s2 d2 => hb G2 H2 (e.trans s2.g) (o.step s2) _ fun w G3 H3 s3 d3 => by
    obtain rfl : v = V.int a := d2
    obtain rfl : w = V.int b := d3
    refine ⟨a, b, rfl, rfl, _, rfl, ?_⟩
    by_cases h : a ≤ b
    · rw [if_pos (decide_eq_true h)]
      refine hc G3 H3 ((e.trans s2.g).trans s3.g) ((o.step s2).step s3) _ fun u G4 H4 s4 d4 => ?_
      obtain rfl : u = V.int c := d4
      refine ⟨b, c, rfl, rfl, q _ G4 H4 ((s2.trans s3).trans s4) ?_⟩
      rw [decide_eq_true h]; rfl
    · rw [if_neg (by simpa using h)]
      refine q _ G3 H3 (s2.trans s3) ?_
      rw [decide_eq_false h]; rfl
section
variable {P : Program} {w : World} {K : PySem.W.Frag} {mg : Str → Option Value} {base : Heap}
/-! ### look_at -/
abbrev s_look_at : Stmt := top 32
theorem sc_look_at : FnScope ["f", "p", "most_degree", "most_size", "number", "size"] ["f", "p", "most_degree", "most_size"] (defScope s_look_at) := ⟨rfl, rfl, rfl, by decide +kernel, rfl, by decide +kernel, by decide +kernel⟩
  -- slots 0:f 1:p 2:most_degree 3:most_size 4:number 5:size
abbrev sp_look_at (X4 : Four) : Sp := fun vs H Q E => ∃ (G : Hp) (f : Fi) (p : El) (vf vp : V), vs = [vf, vp, .int 6, .int 24] ∧ Same G H ∧ Den.D G vf f ∧ Den.D G vp p ∧ f.ok ∧
  ((p.prime = false ∧ ∀ G2 H2, Step G H G2 H2 → E (.ref X4.pr) none H2) ∨
   (p.prime = true ∧ f.good = false ∧ ∀ G2 H2, Step G H G2 H2 → E (.ref X4.po) none H2) ∨
   (∃ (q : Int) (g : L), p = .int q ∧ p.prime = true ∧ f = .ls (g.map El.int) ∧ f.good = true ∧ DiPre (g, ()) ∧ ∀ G2 H2, Step G H G2 H2 →
     (disc g = 0 → E (.ref X4.pl) none H2) ∧ (disc g ≠ 0 → (sz (disc g) q > 24 ∨ g.length > 7) → E (.ref X4.de) none H2) ∧ (disc g ≠ 0 → ¬ (sz (disc g) q > 24 ∨ g.length > 7) → Q (.int (sz (disc g) q)) H2)))
theorem primes_rng {q : Int} (h : (El.int q).prime = true) : 2 ≤ q ∧ q ≤ 47 := by
  have h : (prs.any fun y => y == q) = true := h
  obtain ⟨y, hy, e⟩ := List.any_eq_true.mp h
  have e : y = q := by simpa using e
  subst e
  simp [prs] at hy
  omega
theorem ok_look_at (T : Tx mg) (CS : Cs K mg) {X4 : Four} (X_NoPrime : Xc K mg "NoPrime" X4.pr) (X_NoPolynomial : Xc K mg "NoPolynomial" X4.po) (X_NotPlain : Xc K mg "NotPlain" X4.pl) (X_TooDeep : Xc K mg "TooDeep" X4.de) (D_size_of_number : Df P w K mg base "size_of_number" 1 ["number", "p"] sp_size_of_number) (D_discriminant : Df P w K mg base "discriminant" 4 ["f"] sp_discriminant) (D_is_polynomial : Df P w K mg base "is_polynomial" 2 ["thing"] sp_is_polynomial) (D_is_prime : Df P w K mg base "is_prime" 2 ["thing"] sp_is_prime) {f : Addr} {fd : FuncData} (F : Fun K "look_at" "look_at" s_look_at f fd) : FnOk P w K mg base (L2N.CX P w) 5 f fd ["f", "p", "most_degree", "most_size"] (sp_look_at X4) := by
  refine okXN F sc_look_at (fun vs H Q E h => ?_) (fun cdv A outer s H vs Q E hr h => ?_)
  · obtain ⟨_, _, _, _, _, rfl, _⟩ := h; rfl
  obtain ⟨G, ff, p, vf, vp, rfl, e, df, dp, hok, hcase⟩ := h
  obtain ⟨f_size_of_number, fd_size_of_number, g_size_of_number, m_size_of_number, k_size_of_number, b_size_of_number⟩ := D_size_of_number
  have hr_size_of_number : Room 1 _ := hr.mono (by decide)
  obtain ⟨f_discriminant, fd_discriminant, g_discriminant, m_discriminant, k_discriminant, b_discriminant⟩ := D_discriminant
  have hr_discriminant : Room 4 _ := hr.mono (by decide)
  obtain ⟨f_is_polynomial, fd_is_polynomial, g_is_polynomial, m_is_polynomial, k_is_polynomial, b_is_polynomial⟩ := D_is_polynomial
  have hr_is_polynomial : Room 2 _ := hr.mono (by decide)
  obtain ⟨f_is_prime, fd_is_prime, g_is_prime, m_is_prime, k_is_prime, b_is_prime⟩ := D_is_prime
  have hr_is_prime : Room 2 _ := hr.mono (by decide)
  refine ⟨_, (pss_cons (ps_if (pt_not (pt_val (pe_call g_is_prime hr_is_prime rfl m_is_prime k_is_prime b_is_prime .nil pass0 (pa_cons (pv 1) pa_nil)))) (pss_one (L2N.ps_raise rfl (L2N.takes_of rfl rfl rfl rfl) (L2N.pmk_own PySem.F.excBase_ValueError X_NoPrime.q X_NoPrime.gC X_NoPrime.kC (raises_own X_NoPrime.exC X_NoPrime.tyC) (by rfl)))) pss_nil)
      (pss_cons (ps_if (PW.pt (pw_or (pt_not (pt_val (pe_call g_is_polynomial hr_is_polynomial rfl m_is_polynomial k_is_polynomial b_is_polynomial .nil pass0 (pa_cons (pv 0) pa_nil)))) (pw_or (pt_not (pt_chain op_le op_le pe_int (pe_callB (lenK (K := K)) (by rfl) T.b_len PySem.boot_len (pa_cons (pv 0) pa_nil)) (pe_op op_add (pe_glob rfl CS.GREATEST_DEGREE.2 CS.GREATEST_DEGREE.1) pe_int))) (pw_or1 (pt_cmpR op_ne (pe_ix (ixL (K := K)) (pv 0) (pe_un un_neg pe_int) (fun _ _ => rfl)) pe_int (nomark _)))))) (pss_one (L2N.ps_raise rfl (L2N.takes_of rfl rfl rfl rfl) (L2N.pmk_own PySem.F.excBase_ValueError X_NoPolynomial.q X_NoPolynomial.gC X_NoPolynomial.kC (raises_own X_NoPolynomial.exC X_NoPolynomial.tyC) (by rfl)))) pss_nil)
      (pss_cons (ps_set (i := 4) sc_look_at.nd rfl (Or.inl rfl) (pe_call g_discriminant hr_discriminant rfl m_discriminant k_discriminant b_discriminant .nil pass0 (pa_cons (pv 0) pa_nil)))
      (pss_cons (ps_if (pt_cmpR op_eq (pv 4) pe_int (nomark _)) (pss_one (L2N.ps_raise rfl (L2N.takes_of rfl rfl rfl rfl) (L2N.pmk_own PySem.F.excBase_ValueError X_NotPlain.q X_NotPlain.gC X_NotPlain.kC (raises_own X_NotPlain.exC X_NotPlain.tyC) (by rfl)))) pss_nil)
      (pss_cons (ps_set (i := 5) sc_look_at.nd rfl (Or.inl rfl) (pe_call g_size_of_number hr_size_of_number rfl m_size_of_number k_size_of_number b_size_of_number .nil pass0 (pa_cons (pv 4) (pa_cons (pv 1) pa_nil))))
      (pss_cons (ps_if (PW.pt (pw_or (pt_cmpR op_gt (pv 5) (pe_callB (call_min2 rfl) (by rfl) T.b_min (by decide +kernel) (pa_cons (pe_glob rfl CS.GREATEST_SIZE.2 CS.GREATEST_SIZE.1) (pa_cons (pv 3) pa_nil))) (nomark _)) (pw_or1 (pt_cmpR op_gt (pe_op op_sub (pe_callB (lenK (K := K)) (by rfl) T.b_len PySem.boot_len (pa_cons (pv 0) pa_nil)) pe_int) (pv 2) (nomark _))))) (pss_one (L2N.ps_raise rfl (L2N.takes_of rfl rfl rfl rfl) (L2N.pmk_own PySem.F.excBase_ValueError X_TooDeep.q X_TooDeep.gC X_TooDeep.kC (raises_own X_TooDeep.exC X_TooDeep.tyC) (by rfl)))) pss_nil)
      (pss_one (ps_ret (pv 5))))))))), ?_⟩
  have F0 := Fr.start e
  refine st_seq (st_if F0 (et_not (et_test (ev_call (Pre := TrueP) (F := fun x : El × Unit => x.1.prime) (x := (p, ())) (ea_cons (ev_var rfl dp) ea_nil) trivial))) (fun hb G1 H1 F1 e1 => ?_) (fun hb G1 H1 F1 e1 => ?_))
  · have hb : p.prime = false := by simpa using hb
    rcases hcase with ⟨_, k⟩ | ⟨h, _⟩ | ⟨_, _, _, h, _⟩
    · exact k G1 H1 F1.s
    · rw [hb] at h; cases h
    · rw [hb] at h; cases h
  have hb : p.prime = true := by simpa using hb
  refine nxt ?_
  have hcase : (ff.good = false ∧ ∀ G2 H2, Step G H G2 H2 → E (.ref X4.po) none H2) ∨ (∃ (q : Int) (g : L), p = .int q ∧ p.prime = true ∧ ff = .ls (g.map El.int) ∧ ff.good = true ∧ DiPre (g, ()) ∧ ∀ G2 H2, Step G H G2 H2 →
     (disc g = 0 → E (.ref X4.pl) none H2) ∧ (disc g ≠ 0 → (sz (disc g) q > 24 ∨ g.length > 7) → E (.ref X4.de) none H2) ∧ (disc g ≠ 0 → ¬ (sz (disc g) q > 24 ∨ g.length > 7) → Q (.int (sz (disc g) q)) H2)) := by
    rcases hcase with ⟨h, _⟩ | ⟨_, h⟩ | h
    · rw [hb] at h; cases h
    · exact .inl h
    · exact .inr h
  have df1 := Den.mono e1 df
  dsimp only
  refine st_seq (st_if F1 (b := !ff.good) ?_ (fun hb G2 H2 F2 e2 => ?_) (fun hb G2 H2 F2 e2 => ?_))
  · refine EvT.cast (et_or (et_not (et_B (ev_call (Pre := fun x : Fi × Unit => x.1.ok) (F := fun x : Fi × Unit => x.1.poly) (x := (ff, ())) (ea_cons (ev_var rfl df1) ea_nil) hok))) (b := !ff.good) fun hp => ?_) ?_
    · have hp : ff.poly = true := by simpa using hp
      cases ff with
      | el e => cases hp
      | ls xs =>
        have hw : xs.all El.whole = true := by
          have : (xs.all El.whole && _) = true := hp
          rw [Bool.and_eq_true] at this; exact this.1
        obtain ⟨g, rfl⟩ := wholes hw
        have dg : Den.D G1 vf g := d_elsB df1
        refine EvT.cast (et_or (et_not (et_test (ev_chainLe (ev_int (i := 2)) (ev_len (ev_var rfl dg)) (ev_I0 (ev_int (i := 12)) (ev_int (i := 1)))))) (b := decide (¬ at_ g (g.length - 1) = 1)) fun hc => ?_) ?_
        · have hc : 2 ≤ (g.length : Int) := by simp at hc; omega
          exact et_test ((ev_neI (ev_ixm (x := at_ g (g.length - 1)) (ev_var rfl dg) (ev_neg ev_int) (getD_some (by omega))) (ev_int (i := 1))).cast (by simp))
        · have hl : (match (g.map El.int).getLast? with | some (.int i) => decide (i = 1) | _ => false) = (decide (at_ g (g.length - 1) = 1)) := by
            rw [List.getLast?_map]
            cases hl : g.getLast? with
            | none => rw [List.getLast?_eq_none_iff] at hl; subst hl; rfl
            | some i =>
              rw [List.getLast?_eq_getElem?] at hl
              have h1 : at_ g (g.length - 1) = i := at_of hl
              rw [h1]; rfl
          show _ = !((Fi.ls (g.map El.int)).poly && (decide (2 ≤ (g.map El.int).length) && decide ((g.map El.int).length ≤ 13)) && (match (g.map El.int).getLast? with | some (.int i) => decide (i = 1) | _ => false))
          rw [hl, hp, List.length_map]
          have e1 : decide ((2 : Int) ≤ (g.length : Int)) = decide (2 ≤ g.length) := by
            by_cases c : 2 ≤ g.length
            · rw [decide_eq_true c, decide_eq_true (by omega)]
            · rw [decide_eq_false c, decide_eq_false (by omega)]
          have e2 : decide ((g.length : Int) ≤ 12 + 1) = decide (g.length ≤ 13) := by
            by_cases c : g.length ≤ 13
            · rw [decide_eq_true c, decide_eq_true (by omega)]
            · rw [decide_eq_false c, decide_eq_false (by omega)]
          rw [e1, e2]
          cases decide (2 ≤ g.length) <;> cases decide (g.length ≤ 13) <;> by_cases c : at_ g (g.length - 1) = 1 <;> simp [c]
    · cases hp : ff.poly with
      | true => simp
      | false =>
        have : ff.good = false := by
          cases ff with
          | el e => rfl
          | ls xs => show ((Fi.ls xs).poly && _ && _) = false; rw [hp]; rfl
        rw [this]; rfl
  · have hb : ff.good = false := by simpa using hb
    rcases hcase with ⟨_, k⟩ | ⟨_, _, _, _, _, h, _⟩
    · exact k G2 H2 F2.s
    · rw [hb] at h; cases h
  have hb : ff.good = true := by simpa using hb
  refine nxt ?_
  rcases hcase with ⟨h, _⟩ | ⟨q, g, rfl, hpr, rfl, _, hdi, k⟩
  · rw [hb] at h; cases h
  obtain ⟨q2, q47⟩ := primes_rng hpr
  obtain rfl : vp = V.int q := dp
  have dg : Den.D G2 vf g := d_elsB (Den.mono e2 df1)
  dsimp only
  refine st_seq (st_setI F2 (ev_call (Pre := DiPre) (F := fun x : L × Unit => disc x.1) (x := (g, ())) (ea_cons (ev_var rfl dg) ea_nil) hdi) fun G3 H3 F3 e3 => ?_)
  dsimp only
  refine st_seq (st_if F3 (et_test (ev_eqI (ev_var (x := disc g) rfl rfl) (ev_int (i := 0)))) (fun hd G4 H4 F4 e4 => ?_) (fun hd G4 H4 F4 e4 => ?_))
  · have hd : disc g = 0 := of_decide_eq_true hd
    exact (k G4 H4 F4.s).1 hd
  have hd : ¬ disc g = 0 := of_decide_eq_false hd
  refine nxt ?_
  dsimp only
  refine st_seq (st_setI F4 (ev_unsome ((ev_call (Pre := SzPre) (F := fun x : Int × Int × Unit => if x.1 = 0 then none else some (sz x.1 x.2.1)) (x := (disc g, q, ())) (ea_cons (ev_var rfl rfl) (ea_cons (ev_var rfl rfl) ea_nil)) ⟨q2, by dsimp only; omega⟩).cast (by dsimp only; rw [if_neg hd]))) fun G5 H5 F5 e5 => ?_)
  dsimp only
  refine st_seq (st_if F5 (et_or (et_test (ev_B0 (ev_var (x := sz (disc g) q) rfl rfl) (ev_min (ev_int (i := 40)) (ev_var (x := (24 : Int)) rfl rfl)))) fun _ => et_test (ev_B0 (ev_I0 (ev_len (ev_var rfl (Den.mono ((e3.trans e4).trans e5) dg))) (ev_int (i := 1))) (ev_var (x := (6 : Int)) rfl rfl))) (fun hs G6 H6 F6 e6 => ?_) (fun hs G6 H6 F6 e6 => ?_))
  · refine (k G6 H6 F6.s).2.1 hd ?_
    simp at hs
    omega
  · refine nxt ?_
    have hs : ¬ (sz (disc g) q > 24 ∨ g.length > 7) := by simp at hs; omega
    refine st_ret F6 (ev_var (x := sz (disc g) q) rfl rfl) fun v G7 H7 s7 d7 => ?_
    obtain rfl : v = V.int (sz (disc g) q) := d7
    exact (k G7 H7 s7).2.2 hd hs
end
end Bw
set_option Elab.async false
set_option linter.all false
set_option maxRecDepth 100000
set_option maxHeartbeats 4000000
namespace Bw
open PySem L2 Bd
/-- what is known of the rounds -/
structure Rounds (g : L) (q : Int) (Inv : B → Prop) (ms : B → Nat) : Prop where
  i0 : Inv (basis0 (g.length - 1))
  gr : ∀ {C : Addr} b, Inv b → GrPre ((⟨⟨g, q, b⟩⟩, ()) : Ob C × Unit)
  nx : ∀ b, Inv b → Inv (Od.greater ⟨g, q, b⟩)
  dn : ∀ b, Inv b → ks (Od.greater ⟨g, q, b⟩) ≠ ks b → ms (Od.greater ⟨g, q, b⟩) < ms b
section
variable {P : Program} {w : World} {K : PySem.W.Frag} {mg : Str → Option Value} {base : Heap} {C : Addr}
/-! ### whole_basis -/
abbrev s_whole_basis : Stmt := top 47
theorem sc_whole_basis : FnScope ["f", "p", "basis", "more", "i", "g", "k"] ["f", "p"] (defScope s_whole_basis) := ⟨rfl, rfl, rfl, by decide +kernel, rfl, by decide +kernel, by decide +kernel⟩
  -- slots 0:f 1:p 2:basis 3:more 4:i 5:g 6:k
abbrev sp_whole_basis (X4 : Four) : Sp := fun vs H Q E => ∃ (G : Hp) (f : Fi) (p : El) (vf vp : V), vs = [vf, vp] ∧ Same G H ∧ Den.D G vf f ∧ Den.D G vp p ∧ f.ok ∧
  ((p.prime = false ∧ ∀ G2 H2, Step G H G2 H2 → E (.ref X4.pr) none H2) ∨
   (p.prime = true ∧ f.good = false ∧ ∀ G2 H2, Step G H G2 H2 → E (.ref X4.po) none H2) ∨
   (∃ (q : Int) (g : L), p = .int q ∧ p.prime = true ∧ f = .ls (g.map El.int) ∧ f.good = true ∧ DiPre (g, ()) ∧ ((disc g ≠ 0 → ¬ (sz (disc g) q > 24 ∨ g.length > 7) → ∃ Inv ms, Rounds g q Inv ms)) ∧
     (∀ G2 H2, Step G H G2 H2 →
     (disc g = 0 → E (.ref X4.pl) none H2) ∧ (disc g ≠ 0 → (sz (disc g) q > 24 ∨ g.length > 7) → E (.ref X4.de) none H2)) ∧
     (disc g ≠ 0 → ¬ (sz (disc g) q > 24 ∨ g.length > 7) → ∀ v (b : B) G2 H2, Step G H G2 H2 → b.length = g.length - 1 → Den.D G2 v b → Q v H2)))
theorem ok_whole_basis (T : Tx mg) (CS : Cs K mg) (OC : Oc K mg C) {X4 : Four} (D_m_greater : Dm P w K mg base C "greater" 8 ["self"] (sp_m_greater C)) (D_m_init : Di P w K mg base C 3 ["self", "f", "p", "basis"] (spInit C)) (D_look_at : DfX P w K mg base "look_at" 5 ["f", "p", "most_degree", "most_size"] (sp_look_at X4)) {f : Addr} {fd : FuncData} (F : Fun K "whole_basis" "whole_basis" s_whole_basis f fd) : FnOk P w K mg base (L2N.CX P w) 9 f fd ["f", "p"] (sp_whole_basis X4) := by
  refine okXN F sc_whole_basis (fun vs H Q E h => ?_) (fun cdv A outer s H vs Q E hr h => ?_)
  · obtain ⟨_, _, _, _, _, rfl, _⟩ := h; rfl
  obtain ⟨G, ff, p, vf, vp, rfl, e, df, dp, hok, hcase⟩ := h
  obtain ⟨f_m_greater, fd_m_greater, g_m_greater, me_m_greater, b_m_greater⟩ := D_m_greater
  have hr_m_greater : Room 8 _ := hr.mono (by decide)
  obtain ⟨f_m_init, fd_m_init, g_m_init, T_mk, b_m_init⟩ := D_m_init
  have hr_m_init : Room (3 + 1) _ := hr.mono (by decide)
  obtain ⟨f_look_at, fd_look_at, g_look_at, m_look_at, k_look_at, b_look_at⟩ := D_look_at
  have hr_look_at : Room 5 _ := hr.mono (by decide)
  refine ⟨_, (pss_cons (ps_expr (pe_call g_look_at hr_look_at rfl m_look_at k_look_at b_look_at .nil (L2N.passes_call (L2N.takes_of rfl rfl rfl rfl) (fun _ _ _ _ h => h)) (pa_cons (pv 0) (pa_cons (pv 1) (pa_cons (pe_glob rfl CS.MOST_DEGREE.2 CS.MOST_DEGREE.1) (pa_cons (pe_glob rfl CS.MOST_SIZE.2 CS.MOST_SIZE.1) pa_nil))))))
      (pss_cons (ps_setLc (i := 2) (own := [("i", 4)]) (tt := tYes) rfl sc_whole_basis.nd rfl rfl (sw_true rfl rfl rfl (by decide +kernel)) (pi_range1 rfl T.b_range (pa_cons (pe_op op_sub (pe_callB (lenK (K := K)) (by rfl) T.b_len PySem.boot_len (pa_cons (pv 0) pa_nil)) pe_int) pa_nil)) (blkOk_by (N := ["f", "p", "basis", "more", "i", "g", "k"]) (sc := defScope s_whole_basis) (by decide +kernel)) (fun _ _ _ _ _ => (pg_name (i := 4) sc_whole_basis.nd rfl (Or.inl rfl))) (fun _ _ _ _ _ => pts_nil) (fun _ _ _ _ _ => (pe_tup (pa_cons (pe_op op_cat (pe_op op_rep (pe_lst (pa_cons pe_int pa_nil)) (pv 4)) (pe_lst (pa_cons pe_int pa_nil))) (pa_cons pe_int pa_nil)))))
      (pss_one (ps_while (passes_of rfl) (pt_val pe_bl) (pss_cons (ps_set (i := 3) sc_whole_basis.nd rfl (Or.inl rfl) (pe_meth0 (pe_make T_mk g_m_init hr_m_init rfl OC.gC b_m_init .nil pass0 (pa_cons (pv 0) (pa_cons (pv 1) (pa_cons (pv 2) pa_nil)))) OC.cl me_m_greater g_m_greater hr_m_greater b_m_greater .nil pass0))
      (pss_cons (ps_if (pt_cmpR (op_eqD hr.units) (pe_lc (own := [("g", 5), ("k", 6)]) (tt := tYes) rfl sc_whole_basis.nd (pi_listK (K := K) (pv 3)) (blkOk_by (N := ["f", "p", "basis", "more", "i", "g", "k"]) (sc := defScope s_whole_basis) (by decide +kernel)) (fun _ _ _ _ _ => (pg_tupK (K := K) (n := 2) rfl (pgs_cons (pg_name (i := 5) sc_whole_basis.nd rfl (Or.inl rfl)) (pgs_cons (pg_name (i := 6) sc_whole_basis.nd rfl (Or.inl rfl)) pgs_nil)))) (fun _ _ _ _ _ => pts_nil) (fun _ _ _ _ _ => (pv 6))) (pe_lc (own := [("g", 5), ("k", 6)]) (tt := tYes) rfl sc_whole_basis.nd (pi_listK (K := K) (pv 2)) (blkOk_by (N := ["f", "p", "basis", "more", "i", "g", "k"]) (sc := defScope s_whole_basis) (by decide +kernel)) (fun _ _ _ _ _ => (pg_tupK (K := K) (n := 2) rfl (pgs_cons (pg_name (i := 5) sc_whole_basis.nd rfl (Or.inl rfl)) (pgs_cons (pg_name (i := 6) sc_whole_basis.nd rfl (Or.inl rfl)) pgs_nil)))) (fun _ _ _ _ _ => pts_nil) (fun _ _ _ _ _ => (pv 6))) (nomark _)) (pss_one (ps_ret (pv 2))) pss_nil)
      (pss_one (ps_set (i := 2) sc_whole_basis.nd rfl (Or.inl rfl) (pv 3))))))))), ?_⟩
  have F0 := Fr.start e
  refine st_seq ⟨_, rfl, _, rfl, G, ff, p, vf, vp, rfl, e, df, dp, hok, ?_⟩
  rcases hcase with ⟨h1, k⟩ | ⟨h1, h2, k⟩ | ⟨q, g, rfl, hpr, rfl, hg, hdi, hrounds, k1, k2⟩
  · exact .inl ⟨h1, k⟩
  · exact .inr (.inl ⟨h1, h2, k⟩)
  · refine .inr (.inr ⟨q, g, rfl, hpr, rfl, hg, hdi, fun G2 H2 s2 => ⟨(k1 G2 H2 s2).1, (k1 G2 H2 s2).2, fun hd hs => ?_⟩⟩)
    obtain ⟨Inv, ms, RR⟩ := hrounds hd hs
    obtain rfl : vp = V.int q := dp
    have F2 := F0.step s2
    have dg : Den.D G vf g := d_elsB df
    have f0 : 2 ≤ g.length := hdi.f0
    have f1 : g.length ≤ 10 := hdi.f1
    dsimp only
    refine st_seq (st_set F2 (EvL.ev (el_lcR (n := (g.length : Int) - 1) (ys := basis0 (g.length - 1)) (ea_cons (ev_I0 (ev_len (ev_var rfl (Den.mono s2.g dg))) (ev_int (i := 1))) ea_nil) (by unfold basis0; simp) (by omega) (by omega) (fun _ => rfl) fun i y' G' e' hy' => ?_)) fun vb G3 H3 F3 e3 d3 => ?_)
    · obtain ⟨hi, rfl⟩ := range_at hy'
      exact ev_tup ((EvL.ev (el_cat (EvL.ev (el_rep (el_one (ev_int (i := 0))) (ev_var (x := (i : Int)) rfl rfl) (by omega) (by omega))) (EvL.ev (el_one (ev_int (i := 1)))) (by rw [List.length_replicate]; show _ + 1 ≤ _; omega))).cast (y := zeros i ++ [1]) (by rw [zeros_eq]; congr 2)) (ev_int (i := 0))
    refine st_while (G0 := G) (H0 := H) (fun m σ H' => ∃ G' b vb more i gg kk, Fr G H G' [] H' ∧ m = ms b ∧ Inv b ∧ Den.D G' vb b ∧ σ = [some vf, some (.int q), some vb, more, i, gg, kk]) (ms (basis0 (g.length - 1))) ⟨G3, basis0 (g.length - 1), vb, none, none, none, none, F3, rfl, RR.i0, d3, rfl⟩ ?_
    rintro m σ H4 ⟨G4, b, vb, more, i, gg, kk, F4, rfl, hI, db, rfl⟩
    refine ⟨G4, [], true, F4, et_test ev_bl, fun _ G5 H5 F5 e5 => ?_, fun hb => by cases hb⟩
    have GP := RR.gr (C := C) b hI
    have dg5 := Den.mono F5.s.g dg
    refine st_seq (st_set F5 (x := Od.greater ⟨g, q, b⟩) (ev_meth (Pre := GrPre) (F := fun x : Ob C × Unit => x.1.o.greater) (ob := ⟨⟨g, q, b⟩⟩) (x := ()) nf_greater (ev_make (o := ⟨g, q, b⟩) (ea_cons (ev_var rfl dg5) (ea_cons (ev_var rfl rfl) (ea_cons (ev_var rfl (Den.mono e5 db)) ea_nil))) GP.o.i) ea_nil GP) fun vm G6 H6 F6 e6 d6 => ?_)
    have hI2 := RR.nx b hI
    have GP2 := RR.gr (C := C) _ hI2
    have l1 : b.length = g.length - 1 := GP.o.nb
    have l2 : (Od.greater ⟨g, q, b⟩).length = g.length - 1 := GP2.o.nb
    have dn := RR.dn b hI
    have db6 := Den.mono (e5.trans e6) db
    generalize hM : Od.greater ⟨g, q, b⟩ = mo at *
    refine st_seq (st_if F6 (et_test (ev_eqints (f := ks mo) (g := ks b) (EvL.ev (el_lc (xs := mo) (ev_var rfl d6) (by simp [ks]) (by omega) fun i x y v G' e' hx hy d => tn_pair d (fun _ _ => rfl) fun v w dv dw => ?_)) (EvL.ev (el_lc (xs := b) (ev_var rfl db6) (by simp [ks]) (by omega) fun i x y v G' e' hx hy d => tn_pair d (fun _ _ => rfl) fun v w dv dw => ?_)))) (fun hb7 G7 H7 F7 e7 => ?_) (fun hb7 G7 H7 F7 e7 => ?_))
    · have := map_at hx hy
      subst this
      exact ev_var rfl dw
    · have := map_at hx hy
      subst this
      exact ev_var rfl dw
    · exact st_ret F7 (ev_var rfl (Den.mono e7 db6)) fun v G8 H8 s8 d8 => k2 hd hs v b G8 H8 s8 l1 d8
    · have hb7 : ¬ ks mo = ks b := of_decide_eq_false hb7
      refine nxt (st_set F7 (ev_var rfl (Den.mono e7 d6)) fun v8 G8 H8 F8 e8 d8 => ?_)
      exact ⟨ms mo, dn hb7, G8, mo, v8, _, _, _, _, F8, rfl, hI2, d8, rfl⟩
end
end Bw
set_option Elab.async false
set_option linter.all false
set_option maxRecDepth 100000
set_option maxHeartbeats 4000000
namespace Bw
open PySem PySem.Spec PyProof.Rows L2 Bd HotX L2H
/-! ### any(xs) while an exception is handled -/
section
variable {prog : Program} {w : World} {A : Around} {E : Value → Shared → Prop} {s : Shared}
theorem list_end_hot {it l x1 : Addr} {i : Nat} {items : Array Value} {Q : Option Value → Shared → Prop} (hot : HotAt A x1 s.heap) (hne : x1 ≠ it)
    (hit : s.heap.IsListIter it l i) (hl : s.heap.IsList l items) (hx : items[i]? = none)
    (hQ : ∀ h', Heap.ExtBut it s.heap h' → Q none { s with heap := h' }) : wpAny (model prog w) A (pyNext (.ref it)) Q E s := by
  obtain ⟨o, ho, hc, hd⟩ := id hit
  obtain ⟨ol, hol, _, nl, hdl⟩ := hl
  obtain ⟨hh, o1, vs1, h1, d1, c1⟩ := hot
  unfold pyNext
  refine wpAny_bind (wpAny_attempt (wpAny_callSpecial?_slot (name := Str.ofString "__next__") hit.typeIs slot_listiter_next
    (wpAny_call_entry slot_listiter_next hit.typeIs entry_listiter_next ?_ (args_listiter_next _))))
  show wpAny _ _ (field (.ref it) 0 >>= _) _ _ s
  refine wpAny_bind (wpAny_field ho hd (x := .ref l) rfl ?_)
  show wpAny _ _ (if (Value.ref l == Value.none) = true then _ else _) _ _ s
  rw [if_neg (show ¬ ((Value.ref l == Value.none) = true) from Bool.false_ne_true)]
  show wpAny _ _ (field (.ref it) 1 >>= _) _ _ s
  refine wpAny_bind (wpAny_field ho hd (x := .int i 0) rfl ?_)
  show wpAny _ _ (seqItems? (.ref l) >>= _) _ _ s
  refine wpAny_bind (wpAny_seqItems hol hdl ?_)
  simp only [Int.toNat_natCast, hx]
  refine wpAny_bind (wpAny_rule (wpAny_bind (wpAny_setField ho hd (by simp) ?_)))
  show wpAny _ _ (newExc (.type "StopIteration") [] >>= _) _ _ _
  refine wpAny_bind ?_
  simp only [newExc, newTuple]
  refine wpAny_bind (wpAny_newObj_type ?_ (by size_fits))
  refine wpAny_bind (m := firstArgMember _ _) (wpAny_of_eq (a := Value.none) (by first | rfl | (simp only [firstArgMember]; rfl)) ?_)
  refine wpAny_newObj_type ?_ (by size_fits)
  have h1' : (s.heap.update it (Obj.mapFields (·.setIfInBounds 0 Value.none))).get? x1 = some o1 := (Heap.get?_update_other _ _ (Ne.symm hne)).trans h1
  refine raiseNew_hot ⟨hh, o1, vs1, Heap.get?_push_of_some _ (Heap.get?_push_of_some _ h1'), d1, c1⟩ (Nat.ne_of_lt (Heap.lt_size (Heap.get?_push_of_some _ h1'))) (Heap.get?_push_size _ rfl) rfl (by first | (simp; done) | (simp; omega) | (simp only [Array.size_append]; simp; omega)) ?_
  refine wpAny_bind (wpAny_isInstance (T := "StopIteration") (b := true) ⟨_, Heap.get?_update_self _ (Heap.get?_push_size _ rfl) rfl, rfl⟩ isSubtype_stop ?_)
  refine wpAny_pure (hQ _ fun b ob hb e => ?_)
  have e2 : (s.heap.update it (Obj.mapFields (·.setIfInBounds 0 Value.none))).get? b = some ob := (Heap.get?_update_other _ _ (Ne.symm hb)).trans e
  rw [Heap.get?_update_other _ _ (Nat.ne_of_gt (Heap.lt_size (Heap.get?_push_of_some _ e2)))]
  exact Heap.get?_push_of_some _ (Heap.get?_push_of_some _ e2)
theorem walks_hot {x1 : Addr} {o1 : Obj} {vs1 : Array Value} (hh : A.handled = some (.ref x1)) (d1 : o1.data = .fields vs1) (c1 : vs1[2]? = some .none) (I ax : Addr) (hne : ax ≠ I) (hx1 : x1 ≠ I) (items : Array Value) :
    Walks prog w A I [I, ax, x1] [I] items.size (fun i v => items[i]? = some v) (fun i h => h.IsListIter I ax i ∧ h.IsList ax items ∧ h.get? x1 = some o1) where
  sub := fun b hb => by simp at hb; simp [hb]
  frame := fun _ _ _ st hk => ⟨st.1.at fun o e => hk I (by simp) o e, st.2.1.at fun o e => hk ax (by simp) o e, hk x1 (by simp) _ st.2.2⟩
  item := fun i s Q E hi st hQ => by
    refine wpAny_pyNext_list_item st.1 st.2.1 (x := items[i]) (by simp [hi]) fun h' hit' hs' => ?_
    exact hQ _ h' s.toks (by simp [hi]) ⟨hit', st.2.1.extBut hs'.extBut hne, hs'.extBut _ _ hx1 st.2.2⟩ fun b o hb e => hs'.extBut b o (fun h => hb (by simp [h])) e
  done := fun s Q E st hQ => list_end_hot ⟨hh, o1, vs1, st.2.2, d1, c1⟩ hx1 st.1 st.2.1 (by simp) fun h' he' => hQ h' s.toks fun b o hb e => he' b o (fun h => hb (by simp [h])) e
  self := fun _ _ _ _ st hQ => wpAny_pyIter_listiter st.1 hQ
end
theorem truth_bools {prog : Program} {w : World} {A : Around} {bs : List Bool} {its : List Value} (e : Vals (bs.map V.bl) its) :
    PySem.TruthOf prog w A (fun i v => its.toArray[i]? = some v) (fun i => bs.getD i false) := fun i v s Q E hv hq => by
  have hv' : its[i]? = some v := by simpa using hv
  have hlt : i < bs.length := by
    have := (List.getElem?_eq_some_iff.mp hv').1
    rw [← e.length, List.length_map] at this; exact this
  obtain ⟨u, hu, ru⟩ := e.get (i := i) (x := V.bl (bs.getD i false)) (by rw [List.getElem?_map, List.getD_eq_getElem?_getD, List.getElem?_eq_getElem hlt]; rfl)
  rw [hv'] at hu
  cases hu
  obtain rfl : v = Value.bool (bs.getD i false) := ru
  exact wpAny_truthy_bool hq
def rAnyB (K : PySem.W.Frag) : List V → Hp → VK → Prop := fun vs H Q => ∃ (a : Addr) (bs : List Bool), vs = [V.ref a] ∧ SqL K H a (bs.map V.bl) ∧ Q (.bl (bs.any id)) H
theorem any_rangeB : ∀ bs : List Bool, (List.range bs.length).any (fun i => bs.getD i false) = bs.any id
  | [] => rfl
  | n :: ns => by
    rw [List.length_cons, List.range_succ_eq_map, List.any_cons, List.any_map, List.any_cons, ← any_rangeB ns]
    congr 1
theorem cr_anyH {X : Cx} {a : Addr} {oe : Obj} {pn : List (Addr × Obj)} {vs : Array Value} (hd : oe.data = .fields vs) (hc : vs[2]? = some .none) : CallR (X.suite a ((a, oe) :: pn)) (.builtin "any") (rAnyB X.K) := by
  intro pins s σ H vs' us Q I r h
  obtain ⟨l, bs, rfl, hs, q⟩ := h
  obtain ⟨its, rv, hl, _⟩ := I.list hs
  rw [Vals.ref1 r]
  have hlen := rv.length
  obtain ⟨hget, _⟩ := I.pin (a, oe) (List.mem_append.mpr (.inl List.mem_cons_self))
  refine PySem.call_any_walk (iter_any hl.isList fun s₂ e2 st hne => ?_)
  subst e2
  have ha : a ≠ s.heap.objs.size := Nat.ne_of_lt (Heap.lt_size hget)
  refine ⟨_, _, _, _, _, _, _, rfl, walks_hot (A := (X.suite a ((a, oe) :: pn)).A.in1) (x1 := a) rfl hd hc _ l hne ha its.toArray, ⟨st.1, st.2, Heap.get?_push_of_some _ hget⟩, truth_bools rv, fun h' tk hk => ?_⟩
  refine ⟨.bl _, H, I.kept fun b o eo => hk b o (fun hmem => ?_) (Heap.get?_push_of_some _ eo), ?_, q⟩
  · rcases List.mem_cons.mp hmem with e1 | hmem
    · exact absurd (e1 ▸ Heap.lt_size eo) (Nat.lt_irrefl _)
    · cases hmem
  · show Value.bool _ = Value.bool _
    rw [← any_rangeB, List.size_toArray, ← hlen, List.length_map]
end Bw
set_option Elab.async false
set_option linter.all false
set_option maxRecDepth 100000
set_option maxHeartbeats 4000000
namespace Bw
open PySem L2 Bd
/-- the script, as it is handed in -/
structure Scr (K : PySem.W.Frag) where
  ns : L
instance dScr {K : PySem.W.Frag} : Den (Scr K) := ⟨fun H v x => ∃ a, v = .ref a ∧ SqL K H a (x.ns.map V.int), fun e ⟨a, h1, h2⟩ => ⟨a, h1, Evl.ex_l e h2⟩⟩
theorem lconvN_bn {f g : L} {a b : Nat} (hf : Bn a f) (hg : Bn b g) (N : Nat) : ∀ n, n + g.length ≤ N + 1 → ∀ j, (at_ (lconvN f g n (zeros N)) j).natAbs ≤ n * 2 ^ (a + b)
  | 0, _, j => by show (at_ (zeros N) j).natAbs ≤ _; rw [at_zeros]; simp
  | n + 1, h, j => by
    have ih := lconvN_bn hf hg N n (by omega) j
    have e : lconvN f g (n + 1) (zeros N) = addRow (at_ f n) g n g.length (lconvN f g n (zeros N)) := rfl
    rw [e, Nat.succ_mul]
    rw [at_addRow _ _ _ _ _ (by rw [len_lconvN, len_zeros]; omega)]
    have h1 := Int.natAbs_add_le (at_ (lconvN f g n (zeros N)) j) (if n ≤ j ∧ j < n + g.length then at_ f n * at_ g (j - n) else 0)
    have h2 : (if n ≤ j ∧ j < n + g.length then at_ f n * at_ g (j - n) else 0 : Int).natAbs ≤ 2 ^ (a + b) := by
      split
      · exact Bn.mulI (hf _) (hg _)
      · simp
    exact Nat.le_trans h1 (Nat.add_le_add ih h2)
theorem lTimes_bn {f g : L} {a b : Nat} (hf : Bn a f) (hg : Bn b g) (hl : f.length ≤ 64) : Bn (a + b + 6) (lTimes f g) ∧ (lTimes f g).length ≤ f.length + g.length := by
  unfold lTimes
  refine ⟨Bn.trim fun k => ?_, Nat.le_trans (trim_le _) (by rw [len_lconvN, len_zeros]; exact Nat.le_refl _)⟩
  have h1 := lconvN_bn hf hg (f.length + g.length) f.length (by omega) k
  have e : 2 ^ (a + b + 6) = 64 * 2 ^ (a + b) := by rw [Nat.pow_add _ (a + b) 6]; omega
  rw [e]
  exact Nat.le_trans h1 (Nat.mul_le_mul_right _ hl)
section
variable {P : Program} {w : World} {K : PySem.W.Frag} {mg : Str → Option Value} {base : Heap}
/-! ### _law_cell_at -/
abbrev s_law_cell_at : Stmt := top 49
theorem sc_law_cell_at : FnScope ["_law_script", "_law_k"] ["_law_script", "_law_k"] (defScope s_law_cell_at) := ⟨rfl, rfl, rfl, by decide +kernel, rfl, by decide +kernel, by decide +kernel⟩
  -- slots 0:_law_script 1:_law_k
def CaPre {K : PySem.W.Frag} (x : Scr K × Int × Unit) : Prop := 0 ≤ x.2.1
abbrev sp_law_cell_at (K : PySem.W.Frag) : Sp := SpF CaPre fun x : Scr K × Int × Unit => at_ x.1.ns x.2.1.toNat
theorem ev_lenS {σ : L2.St} {G : Hp} {L : Ls} {ta : TE} {x : Scr K} (ha : Ev ta σ G L x) : Ev (tCB (fun xs H Q => ∃ p ys, xs = [.ref p] ∧ (SqL K H p ys ∨ SqT K H p ys) ∧ Q (.int ys.length) H) (tCons ta tNil)) σ G L ((x.ns.length : Nat) : Int) := fun G1 H1 e o Q q =>
  ha G1 H1 e o _ fun v G2 H2 s2 d2 => by
    obtain ⟨a, rfl, h⟩ := d2
    exact ⟨a, _, rfl, .inl (Evl.ex_l s2.i h), q _ G2 H2 s2 (by rw [List.length_map]; rfl)⟩
theorem ev_ixS {σ : L2.St} {G : Hp} {L : Ls} {ta tb : TE} {x : Scr K} {i : Int} {k : Nat} (ha : Ev ta σ G L x) (hb : Ev tb σ G L i) (hi : i = (k : Int)) (hk : k < x.ns.length) : Ev (tOp (rIxL K) ta tb) σ G L (at_ x.ns k) :=
  ev_op ha hb fun G1 H1 v w o _ d1 d2 Q q => by
    obtain ⟨a, rfl, h⟩ := d1
    obtain rfl : w = V.int i := d2
    exact ⟨a, _, i, .int (at_ x.ns k), rfl, rfl, Evl.ex_l o.i h, atI_k hi (by rw [List.getElem?_map, getD_some hk]; rfl), q _ _ _ (Step.refl o.i) rfl⟩
theorem ok_law_cell_at (T : Tx mg) {f : Addr} {fd : FuncData} (F : Fun K "_law_cell_at" "_law_cell_at" s_law_cell_at f fd) : FnOk P w K mg base CX0 1 f fd ["_law_script", "_law_k"] (sp_law_cell_at K) := by
  refine F.ok sc_law_cell_at (fun vs H Q E h => SpF.len h) (fun cdv A outer s H vs Q E hr h => ?_)
  obtain ⟨G, ⟨l, k, _⟩, e, ⟨v, _, rfl, hl, _, _, rfl, hk, rfl⟩, h1, q⟩ := h
  obtain rfl : _ = V.int k := hk
  have h1 : 0 ≤ k := h1
  dsimp only at hl q
  refine ⟨_, (pss_cons (ps_if (pt_cmpR op_lt (pv 1) (pe_callB (lenK (K := K)) (by rfl) T.b_len PySem.boot_len (pa_cons (pv 0) pa_nil)) (nomark _)) (pss_one (ps_ret (pe_ix (ixL (K := K)) (pv 0) (pv 1) (fun _ _ => rfl)))) pss_nil)
      (pss_one (ps_ret pe_int))), ?_⟩
  have F0 := Fr.start e
  refine st_if F0 (et_test (ev_B0 (ev_var rfl rfl) (ev_lenS (ev_var rfl hl)))) (fun hb G1 H1 F1 e1 => ?_) (fun hb G1 H1 F1 e1 => ?_)
  · have hb := of_decide_eq_true hb
    exact st_ret F1 (ev_ixS (k := k.toNat) (ev_var rfl (Den.mono e1 hl)) (ev_var rfl rfl) (by omega) (by omega)) fun v G4 H4 s4 d4 => q v G4 H4 s4 d4
  · have hb := of_decide_eq_false hb
    refine nxt ?_
    dsimp only
    refine st_ret F1 (ev_int (i := 0)) fun v G4 H4 s4 d4 => q v G4 H4 s4 ?_
    rw [at_ge (by omega)]; exact d4
/-! ### _law_number: some whole number -/
abbrev s_law_number : Stmt := top 50
theorem sc_law_number : FnScope ["_law_script", "_law_k", "_law_x", "_law_total", "_law_j"] ["_law_script", "_law_k"] (defScope s_law_number) := ⟨rfl, rfl, rfl, by decide +kernel, rfl, by decide +kernel, by decide +kernel⟩
  -- slots 0:_law_script 1:_law_k 2:_law_x 3:_law_total 4:_law_j
abbrev sp_law_number (K : PySem.W.Frag) : Sp := fun vs H Q E => ∃ (G : Hp) (x : Scr K) (k : Int) (v : V), vs = [v, .int k] ∧ Same G H ∧ Den.D G v x ∧ 0 ≤ k ∧ k ≤ 100 ∧ ∀ (z : Int) G2 H2, Step G H G2 H2 → Q (.int z) H2
theorem ev_abs {σ : L2.St} {G : Hp} {L : Ls} {ta : TE} {i : Int} (ha : Ev ta σ G L i) : Ev (tCB (fun xs H Q => ∃ i, xs = [.int i] ∧ Q (.int (if i < 0 then -i else i)) H) (tCons ta tNil)) σ G L (if i < 0 then -i else i) := fun G1 H1 e o Q q =>
  ha G1 H1 e o _ fun v G2 H2 s2 d2 => ⟨i, by rw [show v = V.int i from d2], q _ G2 H2 s2 rfl⟩
theorem ok_law_number (T : Tx mg) (D_law_cell_at : Df P w K mg base "_law_cell_at" 1 ["_law_script", "_law_k"] (sp_law_cell_at K)) {f : Addr} {fd : FuncData} (F : Fun K "_law_number" "_law_number" s_law_number f fd) : FnOk P w K mg base CX0 2 f fd ["_law_script", "_law_k"] (sp_law_number K) := by
  refine F.ok sc_law_number (fun vs H Q E h => ?_) (fun cdv A outer s H vs Q E hr h => ?_)
  · obtain ⟨_, _, _, _, rfl, _⟩ := h; rfl
  obtain ⟨G, l, k, v, rfl, e, hl, k0, k1, q⟩ := h
  obtain ⟨f_law_cell_at, fd_law_cell_at, g_law_cell_at, m_law_cell_at, k_law_cell_at, b_law_cell_at⟩ := D_law_cell_at
  have hr_law_cell_at : Room 1 _ := hr.mono (by decide)
  refine ⟨_, (pss_cons (ps_if (pt_cmpR op_ge (pe_callB call_abs (by rfl) T.b_abs (by decide +kernel) (pa_cons (pe_call g_law_cell_at hr_law_cell_at rfl m_law_cell_at k_law_cell_at b_law_cell_at .nil pass0 (pa_cons (pv 0) (pa_cons (pv 1) pa_nil))) pa_nil)) (pe_op op_pow pe_int pe_int) (nomark _)) (pss_one (ps_ret (pe_call g_law_cell_at hr_law_cell_at rfl m_law_cell_at k_law_cell_at b_law_cell_at .nil pass0 (pa_cons (pv 0) (pa_cons (pv 1) pa_nil))))) pss_nil)
      (pss_cons (ps_set (i := 2) sc_law_number.nd rfl (Or.inl rfl) (pe_op op_add (pe_op op_add (pe_call g_law_cell_at hr_law_cell_at rfl m_law_cell_at k_law_cell_at b_law_cell_at .nil pass0 (pa_cons (pv 0) (pa_cons pe_int pa_nil))) (pe_op op_mulW pe_int (pv 1))) (pe_op op_mulW pe_int (pe_call g_law_cell_at hr_law_cell_at rfl m_law_cell_at k_law_cell_at b_law_cell_at .nil pass0 (pa_cons (pv 0) (pa_cons (pv 1) pa_nil))))))
      (pss_cons (ps_set (i := 2) sc_law_number.nd rfl (Or.inl rfl) (pe_op op_add (pe_op op_mod (pv 2) pe_int) pe_int))
      (pss_cons (ps_set (i := 3) sc_law_number.nd rfl (Or.inl rfl) pe_int)
      (pss_cons (ps_for PassesOwn.never rfl (pi_range1 rfl T.b_range (pa_cons pe_int pa_nil)) (pg_name (i := 4) sc_law_number.nd rfl (Or.inl rfl)) (pss_cons (ps_set (i := 2) sc_law_number.nd rfl (Or.inl rfl) (pe_op op_mod (pe_op op_add (pe_op op_add (pe_op op_add (pe_op op_mulW (pv 2) pe_int) (pe_op op_fdivZ (pv 2) pe_int)) (pe_op op_mulW (pe_op op_mulW pe_int (pv 4)) (pv 4))) pe_int) pe_int))
      (pss_one (ps_set (i := 3) sc_law_number.nd rfl (Or.inl rfl) (pe_op op_add (pe_op op_mulW (pv 3) pe_int) (pe_op op_mod (pe_op op_mulW (pv 2) pe_int) pe_int))))))
      (pss_one (ps_ret (pv 3)))))))), ?_⟩
  have F0 := Fr.start e
  have cell : ∀ {σ : L2.St} {G' : Hp} {L : Ls} {ta tb : TE} {j : Int}, Ev ta σ G' L l → Ev tb σ G' L j → 0 ≤ j → Ev (tCall (sp_law_cell_at K) [] E0 (tCons ta (tCons tb tNil))) σ G' L (at_ l.ns j.toNat) := fun ha hb h0 =>
    ev_call (Pre := CaPre) (F := fun x : Scr K × Int × Unit => at_ x.1.ns x.2.1.toNat) (x := (l, _, ())) (ea_cons ha (ea_cons hb ea_nil)) h0
  refine st_if F0 (et_test (ev_B0 (ev_abs (cell (ev_var rfl hl) (ev_var rfl rfl) k0)) (ev_I (ev_int (i := 10)) (ev_int (i := 18)) (by unfold CPow; decide +kernel)))) (fun hb G1 H1 F1 e1 => ?_) (fun hb G1 H1 F1 e1 => ?_)
  · exact st_ret F1 (cell (ev_var rfl (Den.mono e1 hl)) (ev_var rfl rfl) k0) fun v G4 H4 s4 d4 => by
      obtain rfl : v = V.int _ := d4
      exact q _ G4 H4 s4
  · have hb := of_decide_eq_false hb
    have hcb : (at_ l.ns k.toNat).natAbs ≤ 2 ^ 60 := by
      have e18 : (10 : Int) ^ (18 : Int).toNat = 1000000000000000000 := by decide +kernel
      rw [e18] at hb
      split at hb <;> omega
    refine nxt ?_
    dsimp only
    have hl1 := Den.mono e1 hl
    refine st_setI F1 (ev_I0 (ev_I0 (cell (ev_var rfl hl1) (ev_int (i := 0)) (by decide)) (ev_I (ev_int (i := 4993)) (ev_var (x := k) rfl rfl) (cmul (a := 20) (b := 20) (by decide) (by omega) (by decide)))) (ev_I (ev_int (i := 43)) (cell (ev_var rfl hl1) (ev_var rfl rfl) k0) (cmul (a := 6) (b := 60) (by decide) hcb (by decide)))) fun G2 H2 F2 e2 => ?_
    generalize at_ l.ns (0 : Int).toNat + 4993 * k + 43 * at_ l.ns k.toNat = x0
    refine st_setI F2 (ev_I0 (ev_I (ev_var (x := x0) rfl rfl) (ev_int (i := 2147483579)) (by show (0 : Int) < 2147483579; decide)) (ev_int (i := 37))) fun G3 H3 F3 e3 => ?_
    have hx0 : (x0 % 2147483579 + 37).natAbs ≤ 2 ^ 32 := by omega
    generalize x0 % 2147483579 + 37 = x1 at *
    dsimp only
    refine st_seq (st_setI F3 (ev_int (i := 0)) fun G4 H4 F4 e4 => ?_)
    refine st_seq ?_
    refine st_for1 F4 (ea_cons (ev_int (i := 12)) ea_nil) (by decide) (by decide) (fun i σ H' => ∃ G' x t j, Fr G H G' [] H' ∧ x.natAbs ≤ 2 ^ 32 ∧ t.natAbs ≤ 2 ^ (33 * i) ∧ σ = [some v, some (.int k), some (.int x), some (.int t), j]) (fun G5 H5 F5 e5 => ⟨G5, x1, 0, none, F5, hx0, by decide, rfl⟩) ?_ ?_
    · rintro i σ H5 hi ⟨G5, x, t, j, F5, hx, ht, rfl⟩
      have hi : i < 12 := by simpa using hi
      refine st_setI F5 (ev_I (ev_I0 (ev_I0 (ev_I0 (ev_I (ev_var (x := x) rfl rfl) (ev_int (i := 39373)) (cmul hx (b := 16) (by decide) (by decide))) (ev_I (ev_var (x := x) rfl rfl) (ev_int (i := 40014)) (cdivS (by decide) (by decide)))) (ev_I (ev_I (ev_int (i := 19)) (ev_var (x := (i : Int)) rfl rfl) (cmul (a := 5) (b := 4) (by decide) (by omega) (by decide))) (ev_var (x := (i : Int)) rfl rfl) (cmul (a := 10) (b := 4) (by omega) (by omega) (by decide)))) (ev_int (i := 5))) (ev_int (i := 2147483647)) (by show (0 : Int) < 2147483647; decide)) fun G6 H6 F6 e6 => ?_
      generalize hX : (x * 39373 + x.fdiv 40014 + 19 * (i : Int) * (i : Int) + 5) = y
      have hy : (y % 2147483647).natAbs ≤ 2 ^ 32 := by omega
      generalize y % 2147483647 = z at *
      refine st_setI F6 (ev_I0 (ev_I (ev_var (x := t) rfl rfl) (ev_int (i := 2147483647)) (cmul (b := 31) ht (by decide) (by omega))) (ev_I (ev_I (ev_var (x := z) rfl rfl) (ev_int (i := 40014)) (cmul hy (b := 16) (by decide) (by decide))) (ev_int (i := 2147483563)) (by show (0 : Int) < 2147483563; decide))) fun G7 H7 F7 e7 => ?_
      refine ⟨G7, z, _, _, F7, hy, ?_, rfl⟩
      have h1 : (t * 2147483647).natAbs ≤ 2 ^ (33 * i + 31) := natAbs_mul_le ht (by decide)
      have h2 : (z * 40014 % 2147483563).natAbs ≤ 2 ^ (33 * i + 31) := by
        have : (z * 40014 % 2147483563).natAbs ≤ 2 ^ 31 := by omega
        exact up2 this (by omega)
      have := Bn.add h1 h2
      exact up2 this (by omega)
    · rintro σ H5 ⟨G5, x, t, j, F5, hx, ht, rfl⟩
      exact st_ret F5 (ev_var (x := t) rfl rfl) fun v G6 H6 s6 d6 => by
        obtain rfl : v = V.int t := d6
        exact q _ G6 H6 s6
end
end Bw
set_option Elab.async false
set_option linter.all false
set_option maxRecDepth 100000
set_option maxHeartbeats 4000000
namespace Bw
open PySem L2 Bd
section
variable {P : Program} {w : World} {K : PySem.W.Frag} {mg : Str → Option Value} {base : Heap}
/-! ### _law_trimmed -/
abbrev s_law_trimmed : Stmt := top 51
theorem sc_law_trimmed : FnScope ["_law_numbers", "_law_many"] ["_law_numbers"] (defScope s_law_trimmed) := ⟨rfl, rfl, rfl, by decide +kernel, rfl, by decide +kernel, by decide +kernel⟩
  -- slots 0:_law_numbers 1:_law_many
abbrev sp_law_trimmed : Sp := SpF LenPre fun x : L × Unit => trim x.1
theorem ok_law_trimmed (T : Tx mg)  {f : Addr} {fd : FuncData} (F : Fun K "_law_trimmed" "_law_trimmed" s_law_trimmed f fd) : FnOk P w K mg base CX0 1 f fd ["_law_numbers"] sp_law_trimmed := by
  refine F.ok sc_law_trimmed (fun vs H Q E h => SpF.len h) (fun cdv A outer s H vs Q E hr h => ?_)
  obtain ⟨G, ⟨l, _⟩, e, ⟨v, _, rfl, hl, rfl⟩, h1, q⟩ := h
  dsimp only at hl q
  have h1 : l.length ≤ 1000 := h1
  refine ⟨_, (pss_cons (ps_set (i := 1) sc_law_trimmed.nd rfl (Or.inl rfl) (pe_callB (lenK (K := K)) (by rfl) T.b_len PySem.boot_len (pa_cons (pv 0) pa_nil)))
      (pss_cons (ps_while PassesOwn.never (PW.pt (pw_and (pt_cmpR op_gt (pv 1) pe_int (nomark _)) (pw_and1 (pt_cmpR op_eq (pe_ix (ixL (K := K)) (pv 0) (pe_op op_sub (pv 1) pe_int) (fun _ _ => rfl)) pe_int (nomark _))))) (pss_one (ps_set (i := 1) sc_law_trimmed.nd rfl (Or.inl rfl) (pe_op op_sub (pv 1) pe_int))))
      (pss_one (ps_ret (pe_callTy (listK (K := K)) (by rfl) T.b_list (by decide +kernel) (pa_cons (pe_slice (slL (K := K)) (pv 0) po_none (po_some (pv 1))) pa_nil)))))), ?_⟩
  have F0 := Fr.start e
  refine st_setI F0 (ev_len (ev_var rfl hl)) fun G1 H1 F1 e1 => ?_
  refine st_while (G0 := G) (H0 := H) (fun k σ H' => ∃ G', Fr G H G' [] H' ∧ σ = [some v, some (.int (k : Int))] ∧ k ≤ l.length ∧ trim (l.take k) = trim l) l.length ⟨G1, F1, rfl, Nat.le_refl _, by rw [List.take_length]⟩ ?_
  rintro k σ H2 ⟨G2, F2, rfl, hk, ht⟩
  have hl2 := Den.mono F2.s.g hl
  refine ⟨G2, [], _, F2, et_and (et_test (ev_B0 (ev_var rfl rfl) ev_int)) (b := decide (at_ l (k - 1) = 0)) (fun hb => et_test (ev_eqI (ev_ixI (k := k - 1) (ev_var rfl hl2) (ev_I0 (ev_var rfl rfl) ev_int) ?_ ?_) ev_int)), fun hb G3 H3 F3 e3 => ?_, fun hb G3 H3 F3 e3 => ?_⟩
  · have := of_decide_eq_true hb; omega
  · have := of_decide_eq_true hb; omega
  · simp only [Bool.and_eq_true, decide_eq_true_eq] at hb
    refine st_setI F3 (ev_I0 (ev_var (x := (k : Int)) rfl rfl) (ev_int (i := 1))) fun G4 H4 F4 e4 => ?_
    refine ⟨k - 1, by omega, G4, F4, ?_, by omega, ?_⟩
    · have : ((k - 1 : Nat) : Int) = (k : Int) - 1 := by omega
      rw [this]; rfl
    · rw [← ht]
      have ek : k = (k - 1) + 1 := by omega
      have := trim_take (l := l) (k := k - 1) (by omega) hb.2
      rw [← ek] at this; exact this.symm
  · refine st_ret F3 (EvL.ev (el_list (EvL.ev (el_sl (ev_var rfl (Den.mono e3 hl2)) eo_none (eo_some (ev_var (x := (k : Int)) rfl rfl)))))) fun v G4 H4 s4 d4 => q v G4 H4 s4 ?_
    rw [cut_hi l k] at d4
    have : trim l = l.take k := by
      rw [← ht]
      by_cases h0 : k = 0
      · subst h0; rfl
      · have hb2 : at_ l (k - 1) ≠ 0 := by
          intro z
          simp [z] at hb; omega
        have ek : k = (k - 1) + 1 := by omega
        have := trim_done (l := l) (k := k - 1) (by omega) hb2
        rw [← ek] at this; exact this
    rw [this]; exact d4
/-! ### _law_times -/
abbrev s_law_times : Stmt := top 52
theorem sc_law_times : FnScope ["_law_f", "_law_g", "_law_found", "_law_i", "_law_j"] ["_law_f", "_law_g"] (defScope s_law_times) := ⟨rfl, rfl, rfl, by decide +kernel, rfl, by decide +kernel, by decide +kernel⟩
  -- slots 0:_law_f 1:_law_g 2:_law_found 3:_law_i 4:_law_j
def LtPre (x : L × L × Unit) : Prop := x.1.length ≤ 60 ∧ x.2.1.length ≤ 60 ∧ ∃ a b, Bn a x.1 ∧ Bn b x.2.1 ∧ a + b ≤ 900000
abbrev sp_law_times : Sp := SpF LtPre fun x : L × L × Unit => lTimes x.1 x.2.1
theorem ok_law_times (T : Tx mg) (D_law_trimmed : Df P w K mg base "_law_trimmed" 1 ["_law_numbers"] sp_law_trimmed) {f : Addr} {fd : FuncData} (F : Fun K "_law_times" "_law_times" s_law_times f fd) : FnOk P w K mg base CX0 2 f fd ["_law_f", "_law_g"] sp_law_times := by
  refine F.ok sc_law_times (fun vs H Q E h => SpF.len h) (fun cdv A outer s H vs Q E hr h => ?_)
  obtain ⟨G, ⟨x, y, _⟩, e, ⟨v, _, rfl, hx, w, _, rfl, hy, rfl⟩, ⟨h1, h2, a, b, hA, hB, hab⟩, q⟩ := h
  dsimp only at hx hy q h1 h2 hA hB
  obtain ⟨f_law_trimmed, fd_law_trimmed, g_law_trimmed, m_law_trimmed, k_law_trimmed, b_law_trimmed⟩ := D_law_trimmed
  have hr_law_trimmed : Room 1 _ := hr.mono (by decide)
  refine ⟨_, (pss_cons (ps_set (i := 2) sc_law_times.nd rfl (Or.inl rfl) (pe_op op_rep (pe_lst (pa_cons pe_int pa_nil)) (pe_op op_add (pe_callB (lenK (K := K)) (by rfl) T.b_len PySem.boot_len (pa_cons (pv 0) pa_nil)) (pe_callB (lenK (K := K)) (by rfl) T.b_len PySem.boot_len (pa_cons (pv 1) pa_nil)))))
      (pss_cons (ps_for PassesOwn.never rfl (pi_range1 rfl T.b_range (pa_cons (pe_callB (lenK (K := K)) (by rfl) T.b_len PySem.boot_len (pa_cons (pv 0) pa_nil)) pa_nil)) (pg_name (i := 3) sc_law_times.nd rfl (Or.inl rfl)) (pss_one (ps_for PassesOwn.never rfl (pi_range1 rfl T.b_range (pa_cons (pe_callB (lenK (K := K)) (by rfl) T.b_len PySem.boot_len (pa_cons (pv 1) pa_nil)) pa_nil)) (pg_name (i := 4) sc_law_times.nd rfl (Or.inl rfl)) (pss_one (ps_asg (pe_op op_add (pe_ix (ixL (K := K)) (pv 2) (pe_op op_add (pv 3) (pv 4)) (fun _ _ => rfl)) (pe_op op_mulW (pe_ix (ixL (K := K)) (pv 0) (pv 3) (fun _ _ => rfl)) (pe_ix (ixL (K := K)) (pv 1) (pv 4) (fun _ _ => rfl)))) (pg_sub (pv 2) (pe_op op_add (pv 3) (pv 4)) set_list))))))
      (pss_one (ps_ret (pe_call g_law_trimmed hr_law_trimmed rfl m_law_trimmed k_law_trimmed b_law_trimmed .nil pass0 (pa_cons (pv 2) pa_nil)))))), ?_⟩
  have F0 := Fr.start e
  refine st_setLI F0 (el_rep (el_one (ev_int (i := 0))) (ev_I0 (ev_len (ev_var rfl hx)) (ev_len (ev_var rfl hy))) (by omega) (by omega)) fun l G2 H2 F2 e2 => ?_
  have ez : List.replicate (((x.length : Int) + (y.length : Int)).toNat) (0 : Int) = zeros (x.length + y.length) := by
    rw [zeros_eq]; congr 1
  rw [ez] at F2
  refine st_seq ?_
  refine st_for1 F2 (ea_cons (ev_len (ev_var rfl (Den.mono e2 hx))) ea_nil) (by omega) (by omega)
    (fun i σ H' => ∃ G' k j, Fr G H G' ((l, (lconvN x y i (zeros (x.length + y.length))).map V.int) :: []) H' ∧ σ = [some v, some w, some (.ref l), k, j]) (fun G3 H3 F3 e3 => ⟨G3, none, none, F3, rfl⟩) ?_ ?_
  · rintro i σ H3 hi ⟨G3, k, j, F3, rfl⟩
    have hi : i < x.length := by omega
    refine st_for1 F3 (ea_cons (ev_len (ev_var rfl (Den.mono F3.s.g hy))) ea_nil) (by omega) (by omega)
      (fun j σ H' => ∃ G' jj, Fr G H G' ((l, (addRow (at_ x i) y i j (lconvN x y i (zeros (x.length + y.length)))).map V.int) :: []) H' ∧ σ = [some v, some w, some (.ref l), some (.int i), jj]) (fun G5 H5 F5 e5 => ⟨G5, j, F5, rfl⟩) ?_ ?_
    · rintro j σ H5 hj ⟨G5, jj, F5, rfl⟩
      have hj : j < y.length := by omega
      have hlen : (addRow (at_ x i) y i j (lconvN x y i (zeros (x.length + y.length)))).length = x.length + y.length := by rw [len_addRow, len_lconvN, len_zeros]
      refine st_setIx F5 rfl (x := at_ (addRow (at_ x i) y i j (lconvN x y i (zeros (x.length + y.length)))) (i + j) + at_ x i * at_ y j) (ev_I0 (ev_ixoI (k := i + j) rfl List.mem_cons_self (ev_I0 (ev_var (x := (i : Int)) rfl rfl) (ev_var (x := (j : Int)) rfl rfl)) (by omega) (by rw [hlen]; omega))
        (ev_I (ev_ixI (k := i) (ev_var rfl (Den.mono F5.s.g hx)) (ev_var rfl rfl) rfl hi) (ev_ixI (k := j) (ev_var rfl (Den.mono F5.s.g hy)) (ev_var rfl rfl) rfl hj) (cmul (hA i) (hB j) hab))) (ev_I0 (ev_var (x := (i : Int)) rfl rfl) (ev_var (x := (j : Int)) rfl rfl)) (k := i + j) (by omega) (by rw [List.length_map, hlen]; omega) fun u6 G6 H6 F6 e6 d6 => ?_
      obtain rfl : u6 = V.int _ := d6
      rw [← List.map_set] at F6
      exact ⟨G6, some (.int j), F6, rfl⟩
    · rintro σ H5 ⟨G5, jj, F5, rfl⟩
      exact ⟨G5, some (.int i), jj, F5, rfl⟩
  · rintro σ H3 ⟨G3, k, j, F3, rfl⟩
    obtain ⟨G4, F4, e4, d4⟩ := F3.frozen (d_intsV _)
    refine st_ret F4 (ev_call (Pre := LenPre) (F := fun x : L × Unit => trim x.1) (x := (lconvN x y x.length (zeros (x.length + y.length)), ())) (ea_cons (ev_var rfl d4) ea_nil) ?_) fun v G5 H5 s5 d5 => q v G5 H5 s5 d5
    show (lconvN x y _ _).length ≤ 1000
    rw [len_lconvN, len_zeros]; omega
/-! ### _law_product -/
abbrev s_law_product : Stmt := top 54
theorem sc_law_product : FnScope ["_law_some", "_law_f", "_law_one"] ["_law_some"] (defScope s_law_product) := ⟨rfl, rfl, rfl, by decide +kernel, rfl, by decide +kernel, by decide +kernel⟩
  -- slots 0:_law_some 1:_law_f 2:_law_one
def LpPre (x : LL × Unit) : Prop := x.1.length ≤ 12 ∧ ∀ g ∈ x.1, g.length = 2 ∧ Bn 60 g
abbrev sp_law_product : Sp := SpF LpPre fun x : LL × Unit => lProd x.1
theorem lProd_snoc {some_ : LL} {i : Nat} {g : L} (h : some_[i]? = some g) : lProd (some_.take (i + 1)) = lTimes (lProd (some_.take i)) g := by
  rw [List.take_add_one, h]; unfold lProd; rw [List.foldl_append]; rfl
theorem lProd_bn {some_ : LL} (hl : some_.length ≤ 12) (h : ∀ g ∈ some_, g.length = 2 ∧ Bn 60 g) : ∀ i, i ≤ some_.length → (lProd (some_.take i)).length ≤ 1 + 2 * i ∧ Bn (1 + 66 * i) (lProd (some_.take i))
  | 0, _ => ⟨Nat.le_refl _, fun k => by
      show (at_ [1] k).natAbs ≤ _
      cases k with
      | zero => decide
      | succ k => rw [at_cons_succ, at_nil]; decide⟩
  | i + 1, hi => by
    obtain ⟨i1, i2⟩ := lProd_bn hl h i (by omega)
    have hx : some_[i]? = some (some_.getD i []) := getD_at (by omega)
    obtain ⟨g1, g2⟩ := h _ (List.mem_iff_getElem?.mpr ⟨_, hx⟩)
    rw [lProd_snoc hx]
    obtain ⟨b1, b2⟩ := lTimes_bn i2 g2 (by omega)
    exact ⟨by omega, b1.mono (by omega)⟩
theorem ok_law_product (T : Tx mg) (D_law_times : Df P w K mg base "_law_times" 2 ["_law_f", "_law_g"] sp_law_times) {f : Addr} {fd : FuncData} (F : Fun K "_law_product" "_law_product" s_law_product f fd) : FnOk P w K mg base CX0 3 f fd ["_law_some"] sp_law_product := by
  refine F.ok sc_law_product (fun vs H Q E h => SpF.len h) (fun cdv A outer s H vs Q E hr h => ?_)
  obtain ⟨G, ⟨sm, _⟩, e, ⟨v, _, rfl, hs, rfl⟩, ⟨h1, h2⟩, q⟩ := h
  dsimp only at hs q h1 h2
  obtain ⟨f_law_times, fd_law_times, g_law_times, m_law_times, k_law_times, b_law_times⟩ := D_law_times
  have hr_law_times : Room 2 _ := hr.mono (by decide)
  refine ⟨_, (pss_cons (ps_set (i := 1) sc_law_product.nd rfl (Or.inl rfl) (pe_lst (pa_cons pe_int pa_nil)))
      (pss_cons (ps_for PassesOwn.never rfl (pi_listK (K := K) (pv 0)) (pg_name (i := 2) sc_law_product.nd rfl (Or.inl rfl)) (pss_one (ps_set (i := 1) sc_law_product.nd rfl (Or.inl rfl) (pe_call g_law_times hr_law_times rfl m_law_times k_law_times b_law_times .nil pass0 (pa_cons (pv 1) (pa_cons (pv 2) pa_nil))))))
      (pss_one (ps_ret (pv 1))))), ?_⟩
  have F0 := Fr.start e
  refine st_set F0 (EvL.ev (el_one (ev_int (i := 1)))) fun vf G1 H1 F1 e1 d1 => ?_
  refine st_forX F1 (ev_var rfl (Den.mono e1 hs)) (fun Gs i G' σ H' => Same Gs G' ∧ ∃ vf on, Fr G H G' [] H' ∧ Den.D G' vf (lProd (sm.take i)) ∧ σ = [some v, some vf, on])
    (fun Gs i G' σ H' ⟨s1, vf, on, F', _⟩ => ⟨s1, F'.o.i⟩) (fun G2 H2 F2 e2 => ⟨Same.refl _, vf, none, F2, Den.mono e2 d1, rfl⟩) ?_ ?_
  · rintro Gs i g vg G' σ H' eG hi dg ⟨s1, vf, on, F', df, rfl⟩
    have hil : i < sm.length := (List.getElem?_eq_some_iff.mp hi).1
    obtain ⟨b1, b2⟩ := lProd_bn h1 h2 i (by omega)
    obtain ⟨g1, g2⟩ := h2 g (List.mem_iff_getElem?.mpr ⟨i, hi⟩)
    refine st_set F' (ev_call (Pre := LtPre) (F := fun x : L × L × Unit => lTimes x.1 x.2.1) (x := (lProd (sm.take i), g, ())) (ea_cons (ev_var rfl df) (ea_cons (ev_var rfl (Den.mono s1 dg)) ea_nil)) ⟨by dsimp only; omega, by dsimp only; omega, _, _, b2, g2, by omega⟩) fun v3 G3 H3 F3 e3 d3 => ?_
    exact ⟨G3, s1.trans e3, v3, some vg, F3, by rw [lProd_snoc hi]; exact d3, rfl⟩
  · rintro Gs G' σ H' eG ⟨s1, vf, on, F', df, rfl⟩
    rw [List.take_of_length_le (Nat.le_refl _)] at df
    exact st_ret F' (ev_var rfl df) fun v G3 H3 s3 d3 => q v G3 H3 s3 d3
/-! ### _law_size -/
abbrev s_law_size : Stmt := top 56
theorem sc_law_size : FnScope ["_law_number_here", "_law_p", "_law_found"] ["_law_number_here", "_law_p"] (defScope s_law_size) := ⟨rfl, rfl, rfl, by decide +kernel, rfl, by decide +kernel, by decide +kernel⟩
  -- slots 0:_law_number_here 1:_law_p 2:_law_found
def LsPre (x : Int × Int × Unit) : Prop := x.1 ≠ 0 ∧ 2 ≤ x.2.1 ∧ x.2.1 ≤ 1000
abbrev sp_law_size : Sp := SpF LsPre fun x : Int × Int × Unit => sz x.1 x.2.1
theorem ok_law_size (T : Tx mg) {f : Addr} {fd : FuncData} (F : Fun K "_law_size" "_law_size" s_law_size f fd) : FnOk P w K mg base CX0 1 f fd ["_law_number_here", "_law_p"] sp_law_size := by
  refine F.ok sc_law_size (fun vs H Q E h => SpF.len h) (fun cdv A outer s H vs Q E hr h => ?_)
  obtain ⟨G, ⟨x, p, _⟩, e, ⟨_, _, rfl, hx, _, _, rfl, hp, rfl⟩, ⟨h0, h1, h2⟩, q⟩ := h
  obtain rfl : _ = V.int x := hx
  obtain rfl : _ = V.int p := hp
  dsimp only at h0 h1 h2 q
  refine ⟨_, (pss_cons (ps_set (i := 2) sc_law_size.nd rfl (Or.inl rfl) pe_int)
      (pss_cons (ps_while PassesOwn.never (pt_cmpR op_eq (pe_op op_mod (pv 0) (pv 1)) pe_int (nomark _)) (pss_cons (ps_set (i := 0) sc_law_size.nd rfl (Or.inl rfl) (pe_op op_fdivZ (pv 0) (pv 1)))
      (pss_one (ps_set (i := 2) sc_law_size.nd rfl (Or.inl rfl) (pe_op op_add (pv 2) pe_int)))))
      (pss_one (ps_ret (pv 2))))), ?_⟩
  have F0 := Fr.start e
  refine st_setI F0 ev_int fun G2 H2 F2 e2 => ?_
  refine st_while (G0 := G) (H0 := H) (fun m σ H' => ∃ G' y k, Fr G H G' [] H' ∧ m = y.natAbs ∧ σ = [some (.int y), some (.int p), some (.int k)] ∧ y ≠ 0 ∧ k + sz y p = sz x p) x.natAbs ⟨G2, x, 0, F2, rfl, rfl, h0, by omega⟩ ?_
  rintro m σ H3 ⟨G3, y, k, F3, rfl, rfl, hy, hk⟩
  refine ⟨G3, [], _, F3, et_test (ev_eqI (ev_I (ev_var (x := y) rfl rfl) (ev_var (x := p) rfl rfl) (by show 0 < p; omega)) ev_int), fun hb G4 H4 F4 e4 => ?_, fun hb G4 H4 F4 e4 => ?_⟩
  · have hc : y % p = 0 := of_decide_eq_true hb
    obtain ⟨z1, z2, z3⟩ := sz_yes h1 hy hc
    refine st_seq (st_setI F4 (ev_I (ev_var (x := y) rfl rfl) (ev_var (x := p) rfl rfl) (cdivS (by omega) (by omega))) fun G5 H5 F5 e5 => ?_)
    refine st_setI F5 (ev_I0 (ev_var (x := k) rfl rfl) (ev_int (i := 1))) fun G6 H6 F6 e6 => ?_
    refine ⟨_, z3, G6, y / p, k + 1, F6, rfl, ?_, z2, by omega⟩
    rw [fdivE (by omega)]; rfl
  · have hc : y % p ≠ 0 := of_decide_eq_false hb
    have := sz_no hc
    refine st_ret F4 (ev_var (x := k) rfl rfl) fun v G5 H5 s5 d5 => q v G5 H5 s5 ?_
    have e6 : k = sz x p := by omega
    rw [← e6]; exact d5
/-! ### _law_due -/
abbrev s_law_due : Stmt := top 57
theorem sc_law_due : FnScope ["_law_f", "_law_p", "_law_number_here"] ["_law_f", "_law_p"] (defScope s_law_due) := ⟨rfl, rfl, rfl, by decide +kernel, rfl, by decide +kernel, by decide +kernel⟩
  -- slots 0:_law_f 1:_law_p 2:_law_number_here
def dueOf (g : L) (q : Int) : El := if disc g = 0 then .str "plain" else if g.length > 7 ∨ sz (disc g) q > 24 then .str "deep" else .int ((g.length : Int) - 1)
def DuPre (x : L × Int × Unit) : Prop := DiPre (x.1, ()) ∧ 2 ≤ x.2.1 ∧ x.2.1 ≤ 1000
abbrev sp_law_due : Sp := SpF DuPre fun x : L × Int × Unit => dueOf x.1 x.2.1
theorem ev_str {σ : L2.St} {G : Hp} {L : Ls} {s : Str} : Ev (tC (.str s)) σ G L (El.str s) := fun G1 H1 e o Q q => q _ G1 H1 (Step.refl o.i) rfl
theorem ev_elI {σ : L2.St} {G : Hp} {L : Ls} {te : TE} {i : Int} (h : Ev te σ G L i) : Ev te σ G L (El.int i) := h
theorem ok_law_due (T : Tx mg) (D_law_size : Df P w K mg base "_law_size" 1 ["_law_number_here", "_law_p"] sp_law_size) (D_discriminant : Df P w K mg base "discriminant" 4 ["f"] sp_discriminant) {f : Addr} {fd : FuncData} (F : Fun K "_law_due" "_law_due" s_law_due f fd) : FnOk P w K mg base CX0 5 f fd ["_law_f", "_law_p"] sp_law_due := by
  refine F.ok sc_law_due (fun vs H Q E h => SpF.len h) (fun cdv A outer s H vs Q E hr h => ?_)
  obtain ⟨G, ⟨g, p, _⟩, e, ⟨v, _, rfl, hg, _, _, rfl, hp, rfl⟩, ⟨hd, h1, h2⟩, q⟩ := h
  obtain rfl : _ = V.int p := hp
  dsimp only at hg h1 h2 q hd
  obtain ⟨f_law_size, fd_law_size, g_law_size, m_law_size, k_law_size, b_law_size⟩ := D_law_size
  have hr_law_size : Room 1 _ := hr.mono (by decide)
  obtain ⟨f_discriminant, fd_discriminant, g_discriminant, m_discriminant, k_discriminant, b_discriminant⟩ := D_discriminant
  have hr_discriminant : Room 4 _ := hr.mono (by decide)
  refine ⟨_, (pss_cons (ps_set (i := 2) sc_law_due.nd rfl (Or.inl rfl) (pe_call g_discriminant hr_discriminant rfl m_discriminant k_discriminant b_discriminant .nil pass0 (pa_cons (pv 0) pa_nil)))
      (pss_cons (ps_if (pt_cmpR op_eq (pv 2) pe_int (nomark _)) (pss_one (ps_ret pe_str)) pss_nil)
      (pss_cons (ps_if (PW.pt (pw_or (pt_cmpR op_gt (pe_callB (lenK (K := K)) (by rfl) T.b_len PySem.boot_len (pa_cons (pv 0) pa_nil)) pe_int (nomark _)) (pw_or1 (pt_cmpR op_gt (pe_call g_law_size hr_law_size rfl m_law_size k_law_size b_law_size .nil pass0 (pa_cons (pv 2) (pa_cons (pv 1) pa_nil))) pe_int (nomark _))))) (pss_one (ps_ret pe_str)) pss_nil)
      (pss_one (ps_ret (pe_op op_sub (pe_callB (lenK (K := K)) (by rfl) T.b_len PySem.boot_len (pa_cons (pv 0) pa_nil)) pe_int)))))), ?_⟩
  have F0 := Fr.start e
  refine st_setI F0 (ev_call (Pre := DiPre) (F := fun x : L × Unit => disc x.1) (x := (g, ())) (ea_cons (ev_var rfl hg) ea_nil) hd) fun G1 H1 F1 e1 => ?_
  dsimp only
  refine st_seq (st_if F1 (et_test (ev_eqI (ev_var (x := disc g) rfl rfl) (ev_int (i := 0)))) (fun hb G2 H2 F2 e2 => ?_) (fun hb G2 H2 F2 e2 => ?_))
  · have hb : disc g = 0 := of_decide_eq_true hb
    refine st_ret F2 ev_str fun v G3 H3 s3 d3 => q v G3 H3 s3 ?_
    unfold dueOf; rw [if_pos hb]; exact d3
  have hb : ¬ disc g = 0 := of_decide_eq_false hb
  refine nxt ?_
  dsimp only
  have hg2 := Den.mono (e1.trans e2) hg
  refine st_seq (st_if F2 (et_or (et_test (ev_B0 (ev_len (ev_var rfl hg2)) (ev_int (i := 7)))) fun _ => et_test (ev_B0 (ev_call (Pre := LsPre) (F := fun x : Int × Int × Unit => sz x.1 x.2.1) (x := (disc g, p, ())) (ea_cons (ev_var rfl rfl) (ea_cons (ev_var rfl rfl) ea_nil)) ⟨hb, h1, h2⟩) (ev_int (i := 24)))) (fun hs G3 H3 F3 e3 => ?_) (fun hs G3 H3 F3 e3 => ?_))
  · have hs : g.length > 7 ∨ sz (disc g) p > 24 := by simp at hs; omega
    refine st_ret F3 ev_str fun v G4 H4 s4 d4 => q v G4 H4 s4 ?_
    unfold dueOf; rw [if_neg hb, if_pos hs]; exact d4
  · have hs : ¬ (g.length > 7 ∨ sz (disc g) p > 24) := by simp at hs; omega
    refine nxt (st_ret F3 (ev_elI (ev_I0 (ev_len (ev_var rfl (Den.mono e3 hg2))) (ev_int (i := 1)))) fun v G4 H4 s4 d4 => q v G4 H4 s4 ?_)
    unfold dueOf; rw [if_neg hb, if_neg hs]; exact d4
end
end Bw
set_option Elab.async false
set_option linter.all false
set_option maxRecDepth 100000
set_option maxHeartbeats 4000000
namespace Bw
open PySem L2 Bd
theorem takes0N {X : Cx} : L2N.Takes X (fun _ _ _ _ => False) := fun _ _ x => by
  obtain ⟨_, _, _, _, _, _, _, _, _, _, _, _, _, _, _, _, z⟩ := x
  exact z.elim
/-- isinstance(e, c), e the error that the suite holds -/
def rIsG (K : PySem.W.Frag) (a : Addr) (cls : Value) (d : Option Addr) : List V → Hp → VK → Prop := fun xs H Q => ∃ (D : Addr) (c : V) (cv : Value) (b : Bool), cls = .ref D ∧ d = none ∧ ExcC K D ∧ xs = [.ref a, c] ∧ (∀ u, RelV c u → u = cv) ∧ PySem.W.kitOne K (.ref D) cv = some b ∧ Q (.bl b) H
theorem call_isG {X : Cx} {K : PySem.W.Frag} {a : Addr} {oe : Obj} {cls : Value} {d : Option Addr} {pn : List (Addr × Obj)} (hz : L2N.Zn cls d oe) (hf : ∃ vs, oe.data = .fields vs) (hK : X.K = K := by rfl) : CallR (X.suite a ((a, oe) :: pn)) (.builtin "isinstance") (rIsG K a cls d) := by
  subst hK
  intro pins s σ H vs us Q I r h
  obtain ⟨D, c, cv, b, rfl, rfl, hC, rfl, hcv, hk, q⟩ := h
  exact call_isE hC hz.zc hf pins s σ H _ us Q I r ⟨c, cv, b, rfl, hcv, hk, q⟩
/-- xs.count(y), flat items -/
def rCntB (K : PySem.W.Frag) : V → List V → Hp → VK → Prop := fun x xs H Q => ∃ (a : Addr) (ys : List V) (y : V), x = V.ref a ∧ xs = [y] ∧ SqL K H a ys ∧ flatV y = true ∧ ys.all flatV = true ∧ Q (.int (ys.countP fun z => eqV z y : Nat)) H
theorem count_eqU {y : V} : ∀ {ys : List V} {its : List Value}, Vals ys its → ys.all flatV = true → its.countP (eqU y) = ys.countP fun z => eqV z y
  | _, _, .nil, _ => rfl
  | _, _, .cons (a := z) (b := u) r t, h => by
    rw [List.all_cons, Bool.and_eq_true] at h
    have ih := count_eqU (y := y) t h.2
    rw [List.countP_cons, List.countP_cons, ih, eqU_of r h.1]
theorem mt_countB {X : Cx} : MtR X "list.count" (rCntB X.K) := by
  intro pins s σ H x xs v us Q I rx rxs h
  obtain ⟨p, ys, y, rfl, rfl, hs, fy, fys, q⟩ := h
  cases rx
  obtain ⟨u, rfl, ru⟩ := rxs.one
  obtain ⟨its, rv, ⟨⟨cls, dd, data, sl⟩, n, ho, hc, hdn, hd⟩, hlen⟩ := I.list hs
  simp only at hc hd
  subst hc hd
  refine call_meets PySem.F.slot_list_count ⟨_, ho, rfl⟩ PySem.F.entry_list_count (PySem.F.args_list_count_2 _ _)
    (SeqAt.list_countAt p its.toArray n dd sl u (eqU y)) ⟨ho, fun u' hu' => mem_eqAt ru fy rv fys u' (by simpa using hu'), ?_⟩
  have ec : its.toArray.toList.countP (eqU y) = ys.countP fun z => eqV z y := count_eqU rv fys
  refine ⟨.int (ys.countP fun z => eqV z y : Nat), H, I.tok _, ⟨s.toks, ?_⟩, q⟩
  show Value.int ((its.toArray.toList.countP (eqU y) : Nat) : Int) s.toks = _
  rw [ec]
section
variable {X : Cx} {K : PySem.W.Frag}
theorem mt_countK (h : X.K = K := by rfl) : MtR X "list.count" (rCntB K) := h ▸ mt_countB
theorem mt_indexK (h : X.K = K := by rfl) : MtR X "list.index" (rIndex K) := h ▸ mt_index
theorem pe_bmK {T id : String} {name : Str} {r : V → List V → Hp → VK → Prop} {o e : Expr} {es : List Expr} {to : TE} {t : TA} {apos cpos : Pos} (pa : PlainAttrs T) (slot : Slot T name id) (hty : typeOf (.builtin id) = pure (.type "method_descriptor")) (hm : MtR X id r) (ho : PE X o to) (ha : PA X (e :: es) t) (h : X.K = K := by rfl)
    (hbase : attributeBase o name X.env (eval o X.env) = eval o X.env := by rfl)
    (hfew : ((backTo cpos (starEach (e :: es) X.env)).all (fun x => !x.1) && (backToKw cpos (keywordEach [] X.env)).all (fun x => x.1.isSome)
      && decide ((e :: es).length + ([] : List Keyword).length + (if ([] : List Keyword).isEmpty then 0 else 1) < 30)) = true := by rfl)
    (hline : (apos.endLine == cpos.line) = true := by rfl) (hs : starEach (e :: es) X.env = (false, eval e X.env) :: starEach es X.env := by rfl) (hplain : (backTo cpos (starEach es X.env)).any (·.1) = false := by rfl) :
    PE X (.Call (.Attribute o name apos) (e :: es) [] cpos) (tBM K T r to t) := h ▸ pe_bm pa slot hty hm ho ha hbase hfew hline hs hplain
end
/-- what is known of one of the four classes -/
structure Kc (K : PySem.W.Frag) (X4 : Four) (CB r1 r2 r3 r4 C : Addr) (b1 b2 b3 b4 : Bool) : Prop where
  ec : ExcC K C
  xm : PySem.W.exmOne K (.ref C) (.ref CB) = some true
  k1 : PySem.W.kitOne K (.ref C) (.ref X4.pr) = some b1
  k2 : PySem.W.kitOne K (.ref C) (.ref X4.po) = some b2
  k3 : PySem.W.kitOne K (.ref C) (.ref X4.pl) = some b3
  k4 : PySem.W.kitOne K (.ref C) (.ref X4.de) = some b4
  o1 : PySem.W.kitOne K (.ref C) (.ref r1) = some false
  o2 : PySem.W.kitOne K (.ref C) (.ref r2) = some false
  o3 : PySem.W.kitOne K (.ref C) (.ref r3) = some false
  o4 : PySem.W.kitOne K (.ref C) (.ref r4) = some false
  kv : PySem.W.kitOne K (.ref C) (.type "ValueError") = some true
structure Kd (K : PySem.W.Frag) (mg : Str → Option Value) (X4 : Four) where
  CB : Addr
  r1 : Addr
  r2 : Addr
  r3 : Addr
  r4 : Addr
  gB : mg "BranchError" = some (.ref CB)
  g_NoPrime : mg "NoPrime" = some (.ref X4.pr)
  g_NoPolynomial : mg "NoPolynomial" = some (.ref X4.po)
  g_NotPlain : mg "NotPlain" = some (.ref X4.pl)
  g_TooDeep : mg "TooDeep" = some (.ref X4.de)
  g_NoRow : mg "NoRow" = some (.ref r1)
  g_NoSize : mg "NoSize" = some (.ref r2)
  g_NoText : mg "NoText" = some (.ref r3)
  g_NoTower : mg "NoTower" = some (.ref r4)
  ve : mg "ValueError" = none
  kpr : Kc K X4 CB r1 r2 r3 r4 X4.pr true false false false
  kpo : Kc K X4 CB r1 r2 r3 r4 X4.po false true false false
  kpl : Kc K X4 CB r1 r2 r3 r4 X4.pl false false true false
  kde : Kc K X4 CB r1 r2 r3 r4 X4.de false false false true
inductive Pat : Bool → Bool → Bool → Bool → Str → Nat → Prop where
  | pr : Pat true false false false "prime" 0
  | po : Pat false true false false "polynomial" 1
  | pl : Pat false false true false "plain" 2
  | de : Pat false false false true "deep" 3
theorem Pat.low {b1 b2 b3 b4 : Bool} {s : Str} {j : Nat} (h : Pat b1 b2 b3 b4 s j) : ∀ m, m < j → [b1, b2, b3, b4][m]? = some false := by
  intro m hm
  cases h <;> (match m with
    | 0 => first | rfl | omega
    | 1 => first | rfl | omega
    | 2 => first | rfl | omega
    | n + 3 => omega)
section
variable {σ : L2.St} {G : Hp} {L : Ls}
def EvAs {α : Type} [Den α] (ta : TA) (σ : L2.St) (G : Hp) (L : Ls) (xs : List α) : Prop :=
  ∀ G1 H1, Same G G1 → Ok G1 L H1 → ∀ Q : List V → Hp → Prop, (∀ vs G2 H2, Step G1 H1 G2 H2 → Paired (Den.D G2) vs xs → Q vs H2) → ta σ H1 Q
theorem eas_nil {α : Type} [Den α] : EvAs tNil σ G L ([] : List α) := fun G1 H1 e o Q q => q [] G1 H1 (Step.refl o.i) .nil
theorem eas_cons {α : Type} [Den α] {te : TE} {tr : TA} {x : α} {r : List α} (h : Ev te σ G L x) (hr : EvAs tr σ G L r) : EvAs (tCons te tr) σ G L (x :: r) := fun G1 H1 e o Q q =>
  h G1 H1 e o _ fun v G2 H2 s2 d2 => hr G2 H2 (e.trans s2.g) (o.step s2) _ fun vs G3 H3 s3 d3 => q (v :: vs) G3 H3 (s2.trans s3) (.cons (Den.mono s3.g d2) d3)
theorem el_lst {α : Type} [Den α] {ta : TA} {xs : List α} (h : EvAs ta σ G L xs) (hl : xs.length ≤ 1000) : EvL (tLst ta) σ G L xs := fun G1 H1 e o Q q =>
  h G1 H1 e o _ fun vs G2 H2 s2 d2 => ⟨by rw [Paired.len d2]; exact Nat.le_trans hl (by decide), fun p hp => q p vs G2 H2 s2 hp d2⟩
theorem ev_isG {K : PySem.W.Frag} {a D : Addr} {c : V} {cv : Value} {b : Bool} {i : Nat} (hs : σ[i]? = some (some (.ref a))) (hC : ExcC K D) (hcv : ∀ u, RelV c u → u = cv) (hk : PySem.W.kitOne K (.ref D) cv = some b) : Ev (tCB (rIsG K a (.ref D) none) (tCons (tVar i) (tCons (tC c) tNil))) σ G L b := fun G1 H1 e o Q q =>
  ⟨_, hs, D, c, cv, b, rfl, rfl, hC, rfl, hcv, hk, q _ G1 H1 (Step.refl o.i) rfl⟩
theorem d_bools {H : Hp} {vs : List V} {bs : List Bool} (h : Paired (Den.D H) vs bs) : vs = bs.map V.bl := by
  induction h with
  | nil => rfl
  | cons r _ ih => rw [List.map_cons, ← ih, show _ = V.bl _ from r]
theorem ev_anyB {K : PySem.W.Frag} {ta : TE} {bs : List Bool} (ha : Ev ta σ G L bs) : Ev (tCB (rAnyB K) (tCons ta tNil)) σ G L (bs.any id) := fun G1 H1 e o Q q =>
  ha G1 H1 e o _ fun v G2 H2 s2 d2 => by
    obtain ⟨a, vs, rfl, h1, h2⟩ := d2
    rw [d_bools h2] at h1
    exact ⟨a, bs, rfl, SqL.of (s2.i _ _ h1), q _ G2 H2 s2 rfl⟩
theorem flat_bools : ∀ bs : List Bool, (bs.map V.bl).all flatV = true
  | [] => rfl
  | b :: bs => by rw [List.map_cons, List.all_cons, flat_bools bs]; rfl
theorem ev_cntB {K : PySem.W.Frag} {ta : TE} {bs : List Bool} (ha : Ev ta σ G L bs) : Ev (tBM K "list" (rCntB K) ta (tCons (tC (.bl true)) tNil)) σ G L (((bs.map V.bl).countP fun z => eqV z (.bl true) : Nat) : Int) := fun G1 H1 e o Q q =>
  ha G1 H1 e o _ fun v G2 H2 s2 d2 => by
    obtain ⟨a, vs, rfl, h1, h2⟩ := d2
    rw [d_bools h2] at h1
    have hs : SqL K H2 a (bs.map V.bl) := SqL.of (s2.i _ _ h1)
    exact ⟨.inl ⟨rfl, _, hs⟩, a, bs.map V.bl, .bl true, rfl, rfl, hs, rfl, flat_bools bs, q _ G2 H2 s2 rfl⟩
theorem ev_idxB {K : PySem.W.Frag} {ta : TE} {bs : List Bool} {j : Nat} (ha : Ev ta σ G L bs) (hj : bs[j]? = some true) (hn : ∀ m, m < j → bs[m]? = some false) : Ev (tBM K "list" (rIndex K) ta (tCons (tC (.bl true)) tNil)) σ G L (j : Int) := fun G1 H1 e o Q q =>
  ha G1 H1 e o _ fun v G2 H2 s2 d2 => by
    obtain ⟨a, vs, rfl, h1, h2⟩ := d2
    rw [d_bools h2] at h1
    have hs : SqL K H2 a (bs.map V.bl) := SqL.of (s2.i _ _ h1)
    refine ⟨.inl ⟨rfl, _, hs⟩, a, bs.map V.bl, .bl true, j, .bl true, rfl, rfl, hs, rfl, flat_bools bs, by rw [List.getElem?_map, hj]; rfl, rfl, fun m z' hm hz => ?_, q _ G2 H2 s2 rfl⟩
    rw [List.getElem?_map, hn m hm] at hz
    cases hz; rfl
end
section
variable {P : Program} {w : World} {K : PySem.W.Frag} {mg : Str → Option Value} {base : Heap} {C : Addr}
/-! ### _law_outcome -/
abbrev s_law_outcome : Stmt := top 53
theorem sc_law_outcome : FnScope ["_law_f", "_law_p", "e", "_law_kinds", "_law_others"] ["_law_f", "_law_p"] (defScope s_law_outcome) := ⟨rfl, rfl, rfl, by decide +kernel, rfl, by decide +kernel, by decide +kernel⟩
  -- slots 0:_law_f 1:_law_p 2:e 3:_law_kinds 4:_law_others
inductive OutIs : Fi → El → El → Prop where
  | prime {f : Fi} {p : El} (h : p.prime = false) : OutIs f p (.str "prime")
  | poly {f : Fi} {p : El} (h : p.prime = true) (h2 : f.good = false) : OutIs f p (.str "polynomial")
  | num {q : Int} {g : L} (h : (El.int q).prime = true) (h2 : (Fi.ls (g.map El.int)).good = true) (h3 : DiPre (g, ())) (h4 : disc g ≠ 0 → ¬ (sz (disc g) q > 24 ∨ g.length > 7) → ∃ Inv ms, Rounds g q Inv ms) : OutIs (.ls (g.map El.int)) (.int q) (dueOf g q)
abbrev sp_law_outcome : Sp := fun vs H Q E => ∃ (G : Hp) (f : Fi) (p : El) (vf vp : V) (r : El), vs = [vf, vp] ∧ Same G H ∧ Den.D G vf f ∧ Den.D G vp p ∧ f.ok ∧ OutIs f p r ∧ ∀ v G2 H2, Step G H G2 H2 → Den.D G2 v r → Q v H2
theorem whole_all {X4 : Four} (KD : Kd K mg X4) {G H : Hp} {ff : Fi} {p r : El} {vf vp : V} {Q' : VK} {E' : XK} (e : Same G H) (df : Den.D G vf ff) (dp : Den.D G vp p) (hok : ff.ok) (ho : OutIs ff p r)
    (hE : ∀ (C : Addr) (b1 b2 b3 b4 : Bool) (s : Str) (j : Nat), Kc K X4 KD.CB KD.r1 KD.r2 KD.r3 KD.r4 C b1 b2 b3 b4 → Pat b1 b2 b3 b4 s j → r = .str s → ∀ G2 H2, Step G H G2 H2 → E' (.ref C) none H2)
    (hQ : ∀ (v : V) (b : B) G2 H2, r = .int (b.length : Int) → Step G H G2 H2 → Den.D G2 v b → Q' v H2) : sp_whole_basis X4 [vf, vp] H Q' E' := by
  refine ⟨G, ff, p, vf, vp, rfl, e, df, dp, hok, ?_⟩
  cases ho with
  | prime h => exact .inl ⟨h, fun G2 H2 s2 => hE _ _ _ _ _ _ _ KD.kpr .pr rfl G2 H2 s2⟩
  | poly h h2 => exact .inr (.inl ⟨h, h2, fun G2 H2 s2 => hE _ _ _ _ _ _ _ KD.kpo .po rfl G2 H2 s2⟩)
  | @num q g h h2 h3 h4 =>
    refine .inr (.inr ⟨q, g, rfl, h, rfl, h2, h3, h4, fun G2 H2 s2 => ⟨fun hd => ?_, fun hd hs => ?_⟩, fun hd hs v b G2 H2 s2 hb db => ?_⟩)
    · exact hE _ _ _ _ _ _ _ KD.kpl .pl (by unfold dueOf; rw [if_pos hd]) G2 H2 s2
    · exact hE _ _ _ _ _ _ _ KD.kde .de (by unfold dueOf; rw [if_neg hd, if_pos (by omega)]) G2 H2 s2
    · refine hQ v b G2 H2 ?_ s2 db
      unfold dueOf; rw [if_neg hd, if_neg (by omega), hb]
      have : 2 ≤ g.length := h3.f0
      congr 1; omega
theorem ok_law_outcome (T : Tx mg) {X4 : Four} (KD : Kd K mg X4) (D_whole_basis : DfX P w K mg base "whole_basis" 9 ["f", "p"] (sp_whole_basis X4)) {f : Addr} {fd : FuncData} (F : Fun K "_law_outcome" "_law_outcome" s_law_outcome f fd) : FnOk P w K mg base CX0 10 f fd ["_law_f", "_law_p"] sp_law_outcome := by
  refine F.ok sc_law_outcome (fun vs H Q E h => ?_) (fun cdv A outer s H vs Q E hr h => ?_)
  · obtain ⟨_, _, _, _, _, _, rfl, _⟩ := h; rfl
  obtain ⟨G, ff, p, vf, vp, r, rfl, e, df, dp, hok, ho, q⟩ := h
  obtain ⟨f_whole_basis, fd_whole_basis, g_whole_basis, m_whole_basis, k_whole_basis, b_whole_basis⟩ := D_whole_basis
  have hr_whole_basis : Room 9 _ := hr.mono (by decide)
  refine ⟨_, (pss_one (L2N.ps_try_as (i := 2) rfl rfl sc_law_outcome.nd rfl rfl ⟨rfl, by decide, Or.inl KD.gB⟩ takes0N (fun W pn xe tk _ => (pss_one (ps_ret (pe_callB (lenK (K := K)) (by rfl) T.b_len PySem.boot_len (pa_cons (pe_callS g_whole_basis hr_whole_basis rfl m_whole_basis k_whole_basis b_whole_basis (fun σ => L2N.passAt tk σ) (pa_cons (pv 0) (pa_cons (pv 1) pa_nil))) pa_nil))))) (fun a oe cls d pn hz hf => by obtain ⟨vs, hv⟩ := hf; have hcx := hz.2.2 vs hv; exact (pss_cons (ps_set (i := 3) sc_law_outcome.nd rfl (Or.inl rfl) (pe_lst (pa_cons (pe_callB (call_isG (K := K) hz ⟨_, hv⟩) (by rfl) T.b_isinstance (by decide +kernel) (pa_cons (pv 2) (pa_cons (pe_glob (v := .ref X4.pr) rfl KD.g_NoPrime rfl) pa_nil))) (pa_cons (pe_callB (call_isG (K := K) hz ⟨_, hv⟩) (by rfl) T.b_isinstance (by decide +kernel) (pa_cons (pv 2) (pa_cons (pe_glob (v := .ref X4.po) rfl KD.g_NoPolynomial rfl) pa_nil))) (pa_cons (pe_callB (call_isG (K := K) hz ⟨_, hv⟩) (by rfl) T.b_isinstance (by decide +kernel) (pa_cons (pv 2) (pa_cons (pe_glob (v := .ref X4.pl) rfl KD.g_NotPlain rfl) pa_nil))) (pa_cons (pe_callB (call_isG (K := K) hz ⟨_, hv⟩) (by rfl) T.b_isinstance (by decide +kernel) (pa_cons (pv 2) (pa_cons (pe_glob (v := .ref X4.de) rfl KD.g_TooDeep rfl) pa_nil))) pa_nil))))))
      (pss_cons (ps_set (i := 4) sc_law_outcome.nd rfl (Or.inl rfl) (pe_lst (pa_cons (pe_callB (call_isG (K := K) hz ⟨_, hv⟩) (by rfl) T.b_isinstance (by decide +kernel) (pa_cons (pv 2) (pa_cons (pe_glob (v := .ref KD.r1) rfl KD.g_NoRow rfl) pa_nil))) (pa_cons (pe_callB (call_isG (K := K) hz ⟨_, hv⟩) (by rfl) T.b_isinstance (by decide +kernel) (pa_cons (pv 2) (pa_cons (pe_glob (v := .ref KD.r2) rfl KD.g_NoSize rfl) pa_nil))) (pa_cons (pe_callB (call_isG (K := K) hz ⟨_, hv⟩) (by rfl) T.b_isinstance (by decide +kernel) (pa_cons (pv 2) (pa_cons (pe_glob (v := .ref KD.r3) rfl KD.g_NoText rfl) pa_nil))) (pa_cons (pe_callB (call_isG (K := K) hz ⟨_, hv⟩) (by rfl) T.b_isinstance (by decide +kernel) (pa_cons (pv 2) (pa_cons (pe_glob (v := .ref KD.r4) rfl KD.g_NoTower rfl) pa_nil))) pa_nil))))))
      (pss_cons (ps_if (PW.pt (pw_or (pt_val (pe_callB (cr_anyH hv hcx) (by rfl) T.b_any (by decide +kernel) (pa_cons (pv 4) pa_nil))) (pw_or (pt_cmpR op_ne (pe_bmK (K := K) PySem.F.plainAttrs_list PySem.F.slot_list_count PySem.F.type_list_count (mt_countK (K := K)) (pv 3) (pa_cons pe_bl pa_nil)) pe_int (nomark _)) (pw_or1 (pt_not (pt_val (pe_callB (call_isG (K := K) hz ⟨_, hv⟩) (by rfl) T.b_isinstance (by decide +kernel) (pa_cons (pv 2) (pa_cons (pe_bltn (v := .ty "ValueError") (u := .type "ValueError") (by rfl) KD.ve (by decide +kernel) rfl) pa_nil))))))))) (pss_one (ps_ret pe_str)) pss_nil)
      (pss_one (ps_ret (pe_ix (ixL (K := K)) (pe_lst (pa_cons pe_str (pa_cons pe_str (pa_cons pe_str (pa_cons pe_str pa_nil))))) (pe_bmK (K := K) PySem.F.plainAttrs_list PySem.F.slot_list_index PySem.F.type_list_index (mt_indexK (K := K)) (pv 3) (pa_cons pe_bl pa_nil)) (fun _ _ => rfl)))))))))), ?_⟩
  have F0 := Fr.start e
  refine ⟨_, rfl, _, rfl, whole_all KD e df dp hok ho ?_ ?_⟩
  · intro C b1 b2 b3 b4 s j k pat hr2 G2 H2 s2
    refine ⟨true, k.xm, fun _ a ha => ?_, fun q => Bool.noConfusion q⟩
    have F2 := F0.step s2
    have cr : ∀ {C' : Addr} (u : Value), RelV (.ref C') u → u = .ref C' := fun u hu => hu
    have ct : ∀ (u : Value), RelV (.ty "ValueError") u → u = .type "ValueError" := fun u hu => hu
    refine st_seq (st_set F2 (EvL.ev (el_lst (xs := [b1, b2, b3, b4]) (eas_cons (ev_isG rfl k.ec cr k.k1) (eas_cons (ev_isG rfl k.ec cr k.k2) (eas_cons (ev_isG rfl k.ec cr k.k3) (eas_cons (ev_isG rfl k.ec cr k.k4) eas_nil)))) (by show 4 ≤ 1000; decide))) fun v3 G3 H3 F3 e3 d3 => ?_)
    refine st_seq (st_set F3 (EvL.ev (el_lst (xs := [false, false, false, false]) (eas_cons (ev_isG rfl k.ec cr k.o1) (eas_cons (ev_isG rfl k.ec cr k.o2) (eas_cons (ev_isG rfl k.ec cr k.o3) (eas_cons (ev_isG rfl k.ec cr k.o4) eas_nil)))) (by decide))) fun v4 G4 H4 F4 e4 d4 => ?_)
    have d3' := Den.mono e4 d3
    refine st_seq (st_if F4 (b := false) (EvT.cast (et_or (et_B (ev_anyB (ev_var rfl d4))) fun _ => et_or (et_test (ev_neI (ev_cntB (ev_var rfl d3')) (ev_int (i := 1)))) fun _ => et_not (et_test (ev_isG rfl k.ec ct k.kv))) (by cases pat <;> rfl)) (fun hb => by cases hb) (fun _ G5 H5 F5 e5 => ?_))
    refine nxt ?_
    have d35 := Den.mono e5 d3'
    refine st_ret F5 (x := r) (ev_ix (k := j) (EvL.ev (el_lst (xs := [El.str "prime", El.str "polynomial", El.str "plain", El.str "deep"]) (eas_cons ev_str (eas_cons ev_str (eas_cons ev_str (eas_cons ev_str eas_nil)))) (by decide))) (ev_idxB (j := j) (ev_var rfl d35) (by cases pat <;> rfl) pat.low) rfl (by rw [hr2]; cases pat <;> rfl)) fun v6 G6 H6 s6 d6 => q v6 G6 H6 s6 d6
  · intro v b G2 H2 hr2 s2 db
    obtain ⟨a, vs, rfl, h1, h2⟩ := db
    refine ⟨a, vs, rfl, .inl (SqL.of (s2.i _ _ h1)), ?_⟩
    rw [Paired.len h2]
    exact q _ G2 H2 s2 (by rw [hr2]; rfl)
end
end Bw
set_option Elab.async false
set_option linter.all false
set_option maxRecDepth 100000
set_option maxHeartbeats 4000000
namespace Bw
open PySem L2 Bd
section
variable {σ : L2.St} {G : Hp} {L : Ls}
theorem d_elsI {H : Hp} {vs : List V} {f : Bd.L} (h : Paired (Den.D H) vs f) : Paired (Den.D H) vs (f.map El.int) := by
  induction h with
  | nil => exact .nil
  | cons r _ ih => exact .cons r ih
theorem ev_els {te : TE} {f : Bd.L} (h : Ev te σ G L f) : Ev te σ G L (f.map El.int) := fun G1 H1 e o Q q => h G1 H1 e o _ fun v G2 H2 s2 ⟨a, vs, h1, h2, h3⟩ => q v G2 H2 s2 ⟨a, vs, h1, h2, d_elsI h3⟩
theorem ev_fiL {te : TE} {xs : List El} (h : Ev te σ G L xs) : Ev te σ G L (Fi.ls xs) := h
theorem ev_fiE {te : TE} {e : El} (h : Ev te σ G L e) : Ev te σ G L (Fi.el e) := h
theorem ev_elN : Ev (tC .non) σ G L El.non := fun G1 H1 e o Q q => q _ G1 H1 (Step.refl o.i) rfl
theorem ev_elB {b : Bool} : Ev (tC (.bl b)) σ G L (El.bl b) := fun G1 H1 e o Q q => q _ G1 H1 (Step.refl o.i) rfl
theorem ev_elL {te : TE} {f : Bd.L} (h : Ev te σ G L f) : Ev te σ G L (El.li f) := fun G1 H1 e o Q q => h G1 H1 e o _ fun v G2 H2 s2 ⟨a, vs, h1, h2, h3⟩ => q v G2 H2 s2 ⟨a, h1, by rw [← d_ints.mp h3]; exact h2⟩
theorem ev_tupL {K : PySem.W.Frag} {te : TE} {f : Bd.L} (h : Ev te σ G L f) : Ev (tCB (fun xs H Q => ∃ p ys, xs = [.ref p] ∧ ((SqL K H p ys ∧ ∀ l, H l = none → Q (.ref l) (upd H l (.tup ys))) ∨ (SqT K H p ys ∧ Q (.ref p) H))) (tCons te tNil)) σ G L (El.tu f) := fun G1 H1 e o Q q =>
  h G1 H1 e o _ fun v G2 H2 s2 ⟨a, vs, h1, h2, h3⟩ => by
    subst h1
    rw [d_ints.mp h3] at h2
    exact ⟨a, _, rfl, .inl ⟨SqL.of (s2.i _ _ h2), fun l hl => q _ _ _ (s2.trans (Step.new s2.i hl)) ⟨l, rfl, upd_same⟩⟩⟩
theorem ev_tup1 {i : Int} : Ev (tTup (tCons (tC (.int i)) tNil)) σ G L (El.tu [i]) := fun G1 H1 e o Q q =>
  ⟨by show 1 ≤ sizeLine; decide, fun p hp => q _ _ _ (Step.new o.i hp) ⟨p, rfl, upd_same⟩⟩
end
def oddL (f : L) : List Fi := [.el .non, .el (.int 7), .el (.str "x"), .ls [], .ls ([1].map El.int), .ls ((f.take (f.length - 1) ++ [2]).map El.int), .el (.tu f), .ls ((f ++ [0]).map El.int), .ls ((zeros 13 ++ [1]).map El.int), .ls [.bl true, .int 1], .ls [.non, .int 1], .ls [.int 1, .str "1"], .ls ([5].map El.int)]
def oddE : List El := [.non, .bl true, .str "1", .li [1], .tu [1], .bl false]
theorem good_last {g : L} (h : (Fi.ls (g.map El.int)).good = true) : 2 ≤ g.length ∧ g.length ≤ 13 ∧ at_ g (g.length - 1) = 1 := by
  have h : ((Fi.ls (g.map El.int)).poly && (decide (2 ≤ (g.map El.int).length) && decide ((g.map El.int).length ≤ 13)) && (match (g.map El.int).getLast? with | some (.int i) => decide (i = 1) | _ => false)) = true := h
  rw [Bool.and_eq_true, Bool.and_eq_true, Bool.and_eq_true, List.length_map] at h
  obtain ⟨⟨_, h1, h2⟩, h3⟩ := h
  refine ⟨of_decide_eq_true h1, of_decide_eq_true h2, ?_⟩
  rw [List.getLast?_map] at h3
  cases hl : g.getLast? with
  | none => rw [hl] at h3; cases h3
  | some i =>
    rw [hl] at h3
    have h3 : i = 1 := of_decide_eq_true h3
    rw [List.getLast?_eq_getElem?] at hl
    rw [at_of hl, h3]
theorem bad_of {g : L} (h : ¬ (2 ≤ g.length ∧ g.length ≤ 13 ∧ at_ g (g.length - 1) = 1)) : (Fi.ls (g.map El.int)).good = false := by
  cases hg : (Fi.ls (g.map El.int)).good with
  | false => rfl
  | true => exact absurd (good_last hg) h
theorem bad_mix {xs : List El} (h : xs.all El.whole = false) : (Fi.ls xs).good = false := by
  show ((xs.all El.whole && _) && _ && _) = false
  rw [h]; rfl
theorem oddL_ok {f : L} (h1 : 2 ≤ f.length) (h2 : f.length ≤ 10) : ∀ x ∈ oddL f, x.ok ∧ x.good = false := by
  intro x hx
  simp only [oddL, List.mem_cons, List.not_mem_nil, or_false] at hx
  rcases hx with rfl | rfl | rfl | rfl | rfl | rfl | rfl | rfl | rfl | rfl | rfl | rfl | rfl
  · exact ⟨rfl, rfl⟩
  · exact ⟨rfl, rfl⟩
  · exact ⟨rfl, rfl⟩
  · exact ⟨by show 0 ≤ 1000; decide, rfl⟩
  · exact ⟨by show 1 ≤ 1000; decide, bad_of (by show ¬ (2 ≤ 1 ∧ _); omega)⟩
  · refine ⟨by show (List.map _ _).length ≤ 1000; simp; omega, bad_of fun h => ?_⟩
    have hl : (f.take (f.length - 1) ++ [2]).length = f.length := by simp; omega
    have h3 := h.2.2
    rw [hl, at_append, List.length_take, if_neg (by omega)] at h3
    have : f.length - 1 - min (f.length - 1) f.length = 0 := by omega
    rw [this] at h3; cases h3
  · exact ⟨rfl, rfl⟩
  · refine ⟨by show (List.map _ _).length ≤ 1000; simp; omega, bad_of fun h => ?_⟩
    have hl : (f ++ [0]).length = f.length + 1 := by simp
    have h3 := h.2.2
    rw [hl, at_append, if_neg (by omega)] at h3
    have : f.length + 1 - 1 - f.length = 0 := by omega
    rw [this] at h3; cases h3
  · exact ⟨by show (List.map _ _).length ≤ 1000; simp [zeros], bad_of fun h => by have := h.2.1; simp [zeros] at this⟩
  · exact ⟨by show 2 ≤ 1000; decide, bad_mix rfl⟩
  · exact ⟨by show 2 ≤ 1000; decide, bad_mix rfl⟩
  · exact ⟨by show 2 ≤ 1000; decide, bad_mix rfl⟩
  · exact ⟨by show 1 ≤ 1000; decide, bad_of (by show ¬ (2 ≤ 1 ∧ _); omega)⟩
section
variable {P : Program} {w : World} {K : PySem.W.Frag} {mg : Str → Option Value} {base : Heap}
/-! ### _law_odd -/
abbrev s_law_odd : Stmt := top 55
theorem sc_law_odd : FnScope ["_law_cell", "_law_f", "_law_some", "_law_at"] ["_law_cell", "_law_f"] (defScope s_law_odd) := ⟨rfl, rfl, rfl, by decide +kernel, rfl, by decide +kernel, by decide +kernel⟩
  -- slots 0:_law_cell 1:_law_f 2:_law_some 3:_law_at
abbrev sp_law_odd : Sp := fun vs H Q E => ∃ (G : Hp) (f : L) (cell : Int) (vf : V), vs = [.int cell, vf] ∧ Same G H ∧ Den.D G vf f ∧ 2 ≤ f.length ∧ f.length ≤ 10 ∧ ∀ (x : Fi) v G2 H2, Step G H G2 H2 → Den.D G2 v x → x.ok → x.good = false → Q v H2
theorem ok_law_odd (T : Tx mg) {f : Addr} {fd : FuncData} (F : Fun K "_law_odd" "_law_odd" s_law_odd f fd) : FnOk P w K mg base CX0 1 f fd ["_law_cell", "_law_f"] sp_law_odd := by
  refine F.ok sc_law_odd (fun vs H Q E h => ?_) (fun cdv A outer s H vs Q E hr h => ?_)
  · obtain ⟨_, _, _, _, rfl, _⟩ := h; rfl
  obtain ⟨G, ff, cell, vf, rfl, e, df, h1, h2, q⟩ := h
  refine ⟨_, (pss_cons (ps_set (i := 2) sc_law_odd.nd rfl (Or.inl rfl) (pe_lst (pa_cons pe_non (pa_cons pe_int (pa_cons pe_str (pa_cons (pe_lst pa_nil) (pa_cons (pe_lst (pa_cons pe_int pa_nil)) (pa_cons (pe_op op_cat (pe_slice (slL (K := K)) (pv 1) po_none (po_some (pe_un un_neg pe_int))) (pe_lst (pa_cons pe_int pa_nil))) (pa_cons (pe_callTy call_tuple_of (by rfl) T.b_tuple (by decide +kernel) (pa_cons (pv 1) pa_nil)) (pa_cons (pe_op op_cat (pv 1) (pe_lst (pa_cons pe_int pa_nil))) (pa_cons (pe_op op_cat (pe_op op_rep (pe_lst (pa_cons pe_int pa_nil)) pe_int) (pe_lst (pa_cons pe_int pa_nil))) (pa_cons (pe_lst (pa_cons pe_bl (pa_cons pe_int pa_nil))) (pa_cons (pe_lst (pa_cons pe_non (pa_cons pe_int pa_nil))) (pa_cons (pe_lst (pa_cons pe_int (pa_cons pe_str pa_nil))) (pa_cons (pe_lst (pa_cons pe_int pa_nil)) pa_nil)))))))))))))))
      (pss_cons (ps_if (pt_cmpR op_lt (pe_op op_mod (pv 0) pe_int) pe_int (nomark _)) (pss_one (ps_ret (pe_ix (ixL (K := K)) (pv 2) (pe_op op_mod (pv 0) pe_int) (fun _ _ => rfl)))) pss_nil)
      (pss_cons (ps_set (i := 3) sc_law_odd.nd rfl (Or.inl rfl) (pe_op op_mod (pe_op op_fdivZ (pv 0) pe_int) (pe_callB (lenK (K := K)) (by rfl) T.b_len PySem.boot_len (pa_cons (pv 1) pa_nil))))
      (pss_one (ps_ret (pe_op op_cat (pe_op op_cat (pe_slice (slL (K := K)) (pv 1) po_none (po_some (pv 3))) (pe_lst (pa_cons (pe_ix (ixL (K := K)) (pe_lst (pa_cons pe_non (pa_cons pe_bl (pa_cons pe_str (pa_cons (pe_lst (pa_cons pe_int pa_nil)) (pa_cons (pe_tup (pa_cons pe_int pa_nil)) (pa_cons pe_bl pa_nil))))))) (pe_op op_mod (pe_op op_fdivZ (pv 0) pe_int) pe_int) (fun _ _ => rfl)) pa_nil))) (pe_slice (slL (K := K)) (pv 1) (po_some (pe_op op_add (pv 3) pe_int)) po_none))))))), ?_⟩
  have F0 := Fr.start e
  have hcut : cutA ff none (some (-1)) = ff.take (ff.length - 1) := by
    unfold cutA HT.sIx
    simp only [List.drop_zero, Nat.sub_zero]
    congr 1
    rw [if_pos (by omega)]
    omega
  refine st_set F0 (EvL.ev (el_lst (xs := oddL ff) (eas_cons (ev_fiE ev_elN) (eas_cons (ev_fiE (ev_elI ev_int)) (eas_cons (ev_fiE ev_str) (eas_cons (ev_fiL (EvL.ev el_nil)) (eas_cons (ev_fiL (ev_els (EvL.ev (el_one (ev_int (i := 1)))))) (eas_cons (ev_fiL (ev_els (EvL.ev (el_cat (EvL.ev ((el_sl (ev_var rfl df) eo_none (eo_some (ev_neg ev_int))).cast hcut)) (EvL.ev (el_one (ev_int (i := 2)))) (by rw [List.length_take]; show _ + 1 ≤ _; omega)))))
    (eas_cons (ev_fiE (ev_tupL (ev_var rfl df))) (eas_cons (ev_fiL (ev_els (EvL.ev (el_cat (ev_var rfl df) (EvL.ev (el_one (ev_int (i := 0)))) (by show _ + 1 ≤ _; omega))))) (eas_cons (ev_fiL (ev_els (EvL.ev (el_cat ((EvL.ev (el_rep (el_one (ev_int (i := 0))) (ev_int (i := 13)) (by decide) (by decide))).cast (y := zeros 13) rfl) (EvL.ev (el_one (ev_int (i := 1)))) (by decide))))) (eas_cons (ev_fiL (EvL.ev (el_lst (eas_cons ev_elB (eas_cons (ev_elI ev_int) eas_nil)) (by decide))))
    (eas_cons (ev_fiL (EvL.ev (el_lst (eas_cons ev_elN (eas_cons (ev_elI ev_int) eas_nil)) (by decide)))) (eas_cons (ev_fiL (EvL.ev (el_lst (eas_cons (ev_elI ev_int) (eas_cons ev_str eas_nil)) (by decide)))) (eas_cons (ev_fiL (ev_els (EvL.ev (el_one (ev_int (i := 5)))))) eas_nil))))))))))))) (by show 13 ≤ 1000; decide))) fun v2 G2 H2 F2 e2 d2 => ?_
  have m26 := Int.emod_nonneg cell (show (26 : Int) ≠ 0 by decide)
  have m13 := Int.emod_nonneg cell (show (13 : Int) ≠ 0 by decide)
  have n13 := Int.emod_lt_of_pos cell (show (0 : Int) < 13 by decide)
  refine st_seq (st_if F2 (et_test (ev_B0 (ev_I (ev_var (x := cell) rfl rfl) (ev_int (i := 26)) (by show (0 : Int) < 26; decide)) (ev_int (i := 13)))) (fun hb G3 H3 F3 e3 => ?_) (fun hb G3 H3 F3 e3 => ?_))
  · have hx : (oddL ff)[(cell % 13).toNat]? = some ((oddL ff)[(cell % 13).toNat]'(by show _ < 13; omega)) := List.getElem?_eq_getElem _
    obtain ⟨k1, k2⟩ := oddL_ok h1 h2 _ (List.mem_iff_getElem?.mpr ⟨_, hx⟩)
    exact st_ret F3 (ev_ix (k := (cell % 13).toNat) (ev_var rfl (Den.mono e3 d2)) (ev_I (ev_var (x := cell) rfl rfl) (ev_int (i := 13)) (by show (0 : Int) < 13; decide)) (by omega) hx) fun v G4 H4 s4 d4 => q _ v G4 H4 s4 d4 k1 k2
  refine nxt ?_
  dsimp only
  have df3 := Den.mono (e2.trans e3) df
  have hlen : (0 : Int) < (ff.length : Int) := by omega
  have hat0 := Int.emod_nonneg (cell / 26) (show (ff.length : Int) ≠ 0 by omega)
  have hat1 := Int.emod_lt_of_pos (cell / 26) hlen
  refine st_seq (st_setI F3 ((ev_I (ev_I (ev_var (x := cell) rfl rfl) (ev_int (i := 26)) (cdivS (by decide) (by decide))) (ev_len (ev_var rfl df3)) (by show (0 : Int) < (ff.length : Int); exact hlen)).cast (y := ((cell / 26 % (ff.length : Int)).toNat : Int)) (by rw [fdivE (by decide)]; omega)) fun G4 H4 F4 e4 => ?_)
  generalize hN : (cell / 26 % (ff.length : Int)).toNat = N
  have hN' : N < ff.length := by omega
  have df4 := Den.mono e4 df3
  have m6 := Int.emod_nonneg (cell.fdiv 676) (show (6 : Int) ≠ 0 by decide)
  have n6 := Int.emod_lt_of_pos (cell.fdiv 676) (show (0 : Int) < 6 by decide)
  have hx : oddE[(cell.fdiv 676 % 6).toNat]? = some (oddE[(cell.fdiv 676 % 6).toNat]'(by show _ < 6; omega)) := List.getElem?_eq_getElem _
  have hbad : ∀ y ∈ oddE, y.whole = false := by intro y hy; simp only [oddE, List.mem_cons, List.not_mem_nil, or_false] at hy; rcases hy with rfl | rfl | rfl | rfl | rfl | rfl <;> rfl
  have hy := hbad _ (List.mem_iff_getElem?.mpr ⟨_, hx⟩)
  generalize (oddE[(cell.fdiv 676 % 6).toNat]'(by show _ < 6; omega)) = y at *
  refine st_ret F4 (ev_fiL (EvL.ev (el_cat (xs := (ff.take N).map El.int ++ [y]) (ys := (ff.drop (N + 1)).map El.int) (EvL.ev (el_cat (ev_els (EvL.ev ((el_sl (ev_var rfl df4) eo_none (eo_some (ev_var (x := (N : Int)) rfl rfl))).cast (cut_hi ff N)))) (EvL.ev (el_one (ev_ix (k := (cell.fdiv 676 % 6).toNat) (EvL.ev (el_lst (xs := oddE) (eas_cons ev_elN (eas_cons ev_elB (eas_cons ev_str (eas_cons (ev_elL (EvL.ev (el_one (ev_int (i := 1))))) (eas_cons ev_tup1 (eas_cons ev_elB eas_nil)))))) (by show 6 ≤ 1000; decide))) (ev_I (ev_I (ev_var (x := cell) rfl rfl) (ev_int (i := 676)) (cdivS (by decide) (by decide))) (ev_int (i := 6)) (by show (0 : Int) < 6; decide)) (by omega) hx))) (by simp; omega)))
    (ev_els (EvL.ev ((el_sl (ev_var rfl df4) (eo_some ((ev_I0 (ev_var (x := (N : Int)) rfl rfl) (ev_int (i := 1))).cast (y := ((N + 1 : Nat) : Int)) rfl)) eo_none).cast (cut_lo ff (N + 1) (by omega))))) (by simp; omega)))) fun v5 G5 H5 s5 d5 => ?_
  refine q _ v5 G5 H5 s5 d5 (by show List.length _ ≤ 1000; simp; omega) (bad_mix ?_)
  rw [List.all_append, List.all_append]
  show (_ && (y.whole && true) && _) = false
  rw [hy]; simp
end
end Bw
set_option Elab.async false
set_option linter.all false
set_option maxRecDepth 100000
set_option maxHeartbeats 4000000
namespace Bw
open PySem L2 Bd
/-- a polynomial that the law gives, at a prime -/
structure Fine (f : L) (q : Int) : Prop where
  di : DiPre (f, ())
  gd : (Fi.ls (f.map El.int)).good = true
  rd : disc f ≠ 0 → ¬ (sz (disc f) q > 24 ∨ f.length > 7) → ∃ Inv ms, Rounds f q Inv ms
def lawP : List Int := [2, 3, 5, 7, 43, 47]
structure Facts : Prop where
  base : ∀ q ∈ lawP, ∀ n, 1 ≤ n → n ≤ 6 → ∀ m, Fine (fBase n (Tm m)) q
  quad : ∀ q ∈ lawP, ∀ n, 1 ≤ n → n ≤ 4 → ∀ m b c : Int, -4 ≤ b → b ≤ 4 → 1 ≤ c → c ≤ 9 → Fine (lTimes (fBase n (Tm m)) [c, b, 1]) q
  five : ∀ q ∈ lawP, ∀ e, e < 3 → Fine (fFive e q) q
  sq : ∀ q ∈ lawP, ∀ a d : Int, 0 ≤ a → a < 5 → 0 ≤ d → d < 9 → ∀ e, e < 7 → Fine (fSq a d e) q
section
variable {K : PySem.W.Frag} {σ : L2.St} {G0 H0 G H : Hp} {L : Ls} {D' : Ends}
theorem st_ifJ {c : TT} {t u : TS} {b : Bool} (Pv : L2.St → Hp → Prop) (F : Fr G0 H0 G L H) (h : EvT c σ G L b) (hd : ∀ σ H, Pv σ H → D'.nx σ H)
    (h1 : b = true → ∀ D'' : Ends, (∀ σ H, Pv σ H → D''.nx σ H) → ∀ G2 H2, Fr G0 H0 G2 L H2 → Same G G2 → t D'' σ H2) (h2 : b = false → ∀ D'' : Ends, (∀ σ H, Pv σ H → D''.nx σ H) → ∀ G2 H2, Fr G0 H0 G2 L H2 → Same G G2 → u D'' σ H2) : tIfS c t u D' σ H :=
  st_if F h (fun hb G2 H2 F2 e2 => h1 hb D' hd G2 H2 F2 e2) (fun hb G2 H2 F2 e2 => h2 hb D' hd G2 H2 F2 e2)
theorem st_num {ta : TA} {i : Nat} {x : Scr K} {k : Int} {E : XK} (F : Fr G0 H0 G L H) (h : EvA ta σ G L (x, k, ())) (h0 : 0 ≤ k) (h1 : k ≤ 100) (q : ∀ z G2 H2, Fr G0 H0 G2 L H2 → Same G G2 → D'.nx (σ.set i (some (.int z))) H2) : tAsg (tCall (sp_law_number K) [] E ta) (gName i) D' σ H :=
  h G H (Same.refl _) F.o _ fun vs G2 H2 s2 d2 => by
    obtain ⟨v, _, rfl, d1, _, _, rfl, dk, rfl⟩ := d2
    obtain rfl : _ = V.int k := dk
    exact ⟨G2, x, k, v, rfl, s2.i, d1, h0, h1, fun z G3 H3 s3 => q z G3 H3 ((F.step s2).step s3) (s2.g.trans s3.g)⟩
theorem st_odd {ta : TA} {i : Nat} {f : Bd.L} {c : Int} {E : XK} (F : Fr G0 H0 G L H) (h : EvA ta σ G L (c, f, ())) (h0 : 2 ≤ f.length) (h1 : f.length ≤ 10) (q : ∀ (x : Fi) v G2 H2, Fr G0 H0 G2 L H2 → Same G G2 → Den.D G2 v x → x.ok → x.good = false → D'.nx (σ.set i (some v)) H2) : tAsg (tCall sp_law_odd [] E ta) (gName i) D' σ H :=
  h G H (Same.refl _) F.o _ fun vs G2 H2 s2 d2 => by
    obtain ⟨_, _, rfl, dc, v, _, rfl, d1, rfl⟩ := d2
    obtain rfl : _ = V.int c := dc
    exact ⟨G2, f, c, v, rfl, s2.i, d1, h0, h1, fun x v G3 H3 s3 d3 k1 k2 => q x v G3 H3 ((F.step s2).step s3) (s2.g.trans s3.g) d3 k1 k2⟩
theorem ev_out {ta : TA} {x : Fi} {p r : El} {E : XK} (h : EvA ta σ G L (x, p, ())) (hok : x.ok) (ho : OutIs x p r) : Ev (tCall sp_law_outcome [] E ta) σ G L r := fun G1 H1 e o Q q =>
  h G1 H1 e o _ fun vs G2 H2 s2 d2 => by
    obtain ⟨v, _, rfl, d1, w, _, rfl, dp, rfl⟩ := d2
    exact ⟨G2, x, p, v, w, r, rfl, s2.i, d1, dp, hok, ho, fun v G3 H3 s3 d3 => q v G3 H3 (s2.trans s3) d3⟩
theorem ev_neSame {ta tb : TE} {r : El} (ha : Ev ta σ G L r) (hb : Ev tb σ G L r) (hr : (∃ s, r = .str s) ∨ ∃ i, r = .int i) : Ev (tOp rNe ta tb) σ G L false :=
  ev_op ha hb fun G1 H1 v w o _ d1 d2 Q q => by
    rcases hr with ⟨s, rfl⟩ | ⟨i, rfl⟩
    · obtain rfl : v = V.str s := d1
      obtain rfl : w = V.str s := d2
      exact ⟨rfl, q _ _ _ (Step.refl o.i) (by show V.bl _ = V.bl _; simp)⟩
    · obtain rfl : v = V.int i := d1
      obtain rfl : w = V.int i := d2
      exact ⟨rfl, q _ _ _ (Step.refl o.i) (by show V.bl _ = V.bl _; simp)⟩
end
theorem OutIs.flat {f : Fi} {p r : El} (h : OutIs f p r) : (∃ s, r = .str s) ∨ ∃ i, r = .int i := by
  cases h with
  | prime _ => exact .inl ⟨_, rfl⟩
  | poly _ _ => exact .inl ⟨_, rfl⟩
  | @num q g _ _ _ _ =>
    unfold dueOf
    by_cases h1 : disc g = 0
    · rw [if_pos h1]; exact .inl ⟨_, rfl⟩
    · rw [if_neg h1]
      by_cases h2 : g.length > 7 ∨ sz (disc g) q > 24
      · rw [if_pos h2]; exact .inl ⟨_, rfl⟩
      · rw [if_neg h2]; exact .inr ⟨_, rfl⟩
def oddP : List El := [.int 1, .int 4, .int 53, .int 0, .int (-2), .bl true, .non, .str "2", .li [2], .tu [2], .int 49, .int 1000000000000000000000000000000]
theorem oddP_ok : ∀ p ∈ oddP, p.prime = false := by
  intro p hp
  simp only [oddP, List.mem_cons, List.not_mem_nil, or_false] at hp
  rcases hp with rfl | rfl | rfl | rfl | rfl | rfl | rfl | rfl | rfl | rfl | rfl | rfl <;> (first | (show (prs.any fun y => y == _) = false; decide +kernel) | rfl)
theorem lin2 {x : Int} (h : x.natAbs ≤ 2 ^ 59) : ([x, 1] : L).length = 2 ∧ Bn 60 [x, 1] := ⟨rfl, fun k => by
  match k with
  | 0 => exact up2 (b := 60) h (by decide)
  | 1 => exact Nat.pow_pos (show 0 < 2 by decide)
  | k + 2 => rw [at_cons_succ, at_cons_succ, at_nil]; exact Nat.zero_le _⟩
theorem sqPre {a d : Int} {ee : Nat} (ha : 0 ≤ a ∧ a < 5) (hd : 0 ≤ d ∧ d < 9) (he : ee < 7) : LtPre (lProd [[a, 1], [a, 1], [d, 1]], lProd ((List.range ee).map fun j : Nat => ([0 - 10 - (j : Int), 1] : Bd.L)), ()) := by
  have small : ∀ z : Int, z.natAbs ≤ 2 ^ 5 → z.natAbs ≤ 2 ^ 59 := fun z hz => Nat.le_trans hz (Nat.pow_le_pow_right (by decide) (by decide))
  have sa := lin2 (small a (by omega))
  have sd := lin2 (small d (by omega))
  have g1 : ∀ g ∈ ([[a, 1], [a, 1], [d, 1]] : LL), g.length = 2 ∧ Bn 60 g := by
    intro g hg
    rcases List.mem_cons.mp hg with rfl | hg
    · exact sa
    rcases List.mem_cons.mp hg with rfl | hg
    · exact sa
    rcases List.mem_cons.mp hg with rfl | hg
    · exact sd
    cases hg
  have g2 : ∀ g ∈ ((List.range ee).map fun j : Nat => ([0 - 10 - (j : Int), 1] : Bd.L)), g.length = 2 ∧ Bn 60 g := by
    intro g hg
    obtain ⟨j, hj, rfl⟩ := List.mem_map.mp hg
    have hj := List.mem_range.mp hj
    exact lin2 (small _ (by omega))
  have e0 : ((List.range ee).map fun j : Nat => ([0 - 10 - (j : Int), 1] : Bd.L)).length = ee := by rw [List.length_map, List.length_range]
  generalize ((List.range ee).map fun j : Nat => ([0 - 10 - (j : Int), 1] : Bd.L)) = s2 at *
  obtain ⟨l1, b1⟩ := lProd_bn (some_ := [[a, 1], [a, 1], [d, 1]]) (show 3 ≤ 12 by decide) g1 3 (show 3 ≤ 3 by decide)
  have e1 : ([[a, 1], [a, 1], [d, 1]] : LL).take 3 = [[a, 1], [a, 1], [d, 1]] := rfl
  rw [e1] at l1 b1
  obtain ⟨l2, b2⟩ := lProd_bn (some_ := s2) (by omega) g2 ee (by omega)
  have e2 : s2.take ee = s2 := List.take_of_length_le (by omega)
  rw [e2] at l2 b2
  generalize lProd [[a, 1], [a, 1], [d, 1]] = P1 at *
  generalize lProd s2 = P2 at *
  exact ⟨by show P1.length ≤ 60; omega, by show P2.length ≤ 60; omega, _, _, b1, b2, by omega⟩
theorem ev_sq {σ : L2.St} {G : Hp} {L : Ls} {te : TE} {a d : Int} {ee : Nat} {v6 : V} {E : XK} (ha : 0 ≤ a ∧ a < 5) (hd : 0 ≤ d ∧ d < 9) (he : ee < 7) (hs : σ[6]? = some (some v6)) (d6 : Den.D G v6 (lProd [[a, 1], [a, 1], [d, 1]])) (h : Ev te σ G L (lProd ((List.range ee).map fun j : Nat => ([0 - 10 - (j : Int), 1] : Bd.L)))) : Ev (tCall sp_law_times [] E (tCons (tVar 6) (tCons te tNil))) σ G L (fSq a d ee) := by
  have P := sqPre ha hd he
  unfold fSq
  generalize lProd [[a, 1], [a, 1], [d, 1]] = A at *
  generalize lProd ((List.range ee).map fun j : Nat => ([0 - 10 - (j : Int), 1] : Bd.L)) = B at *
  exact ev_call (Pre := LtPre) (F := fun x : Bd.L × Bd.L × Unit => lTimes x.1 x.2.1) (x := (A, B, ())) (ea_cons (ev_var hs d6) (ea_cons h ea_nil)) P
theorem d_fiL {G : Hp} {v : V} {f : Bd.L} (h : Den.D G v f) : Den.D G v (Fi.ls (f.map El.int)) := by
  obtain ⟨a, vs, h1, h2, h3⟩ := h
  exact ⟨a, vs, h1, h2, d_elsI h3⟩
theorem ok_fiL {f : Bd.L} (h : f.length ≤ 10) : (Fi.ls (f.map El.int)).ok := by
  show (f.map El.int).length ≤ 1000
  rw [List.length_map]; omega
end Bw
set_option Elab.async false
set_option linter.all false
set_option maxRecDepth 100000
set_option maxHeartbeats 4000000
namespace Bw
open PySem L2 Bd
section
variable {P : Program} {w : World} {K : PySem.W.Frag} {mg : Str → Option Value} {base : Heap}
/-! ### law -/
abbrev s_law : Stmt := top 58
theorem sc_law : FnScope ["_law_script", "_law_k", "_law_cell", "_law_more", "_law_p", "_law_n", "_law_f", "_law_due_here", "_law_j"] ["_law_script"] (defScope s_law) := ⟨rfl, rfl, rfl, by decide +kernel, rfl, by decide +kernel, by decide +kernel⟩
  -- slots 0:_law_script 1:_law_k 2:_law_cell 3:_law_more 4:_law_p 5:_law_n 6:_law_f 7:_law_due_here 8:_law_j
abbrev sp_law (K : PySem.W.Frag) : Sp := fun vs H Q E => ∃ (G : Hp) (x : Scr K) (v : V), vs = [v] ∧ Same G H ∧ Den.D G v x ∧ ∀ G2 H2, Step G H G2 H2 → Q (.bl true) H2
theorem ok_law (T : Tx mg) (FF : Facts) (D_law_outcome : Df P w K mg base "_law_outcome" 10 ["_law_f", "_law_p"] sp_law_outcome) (D_law_odd : Df P w K mg base "_law_odd" 1 ["_law_cell", "_law_f"] sp_law_odd) (D_law_due : Df P w K mg base "_law_due" 5 ["_law_f", "_law_p"] sp_law_due) (D_law_times : Df P w K mg base "_law_times" 2 ["_law_f", "_law_g"] sp_law_times) (D_law_product : Df P w K mg base "_law_product" 3 ["_law_some"] sp_law_product) (D_law_number : Df P w K mg base "_law_number" 2 ["_law_script", "_law_k"] (sp_law_number K)) {f : Addr} {fd : FuncData} (F : Fun K "law" "law" s_law f fd) : FnOk P w K mg base CX0 11 f fd ["_law_script"] (sp_law K) := by
  refine F.ok sc_law (fun vs H Q E h => ?_) (fun cdv A outer s H vs Q E hr h => ?_)
  · obtain ⟨_, _, _, rfl, _⟩ := h; rfl
  obtain ⟨G, x, v, rfl, e, hx, q⟩ := h
  obtain ⟨f_law_outcome, fd_law_outcome, g_law_outcome, m_law_outcome, k_law_outcome, b_law_outcome⟩ := D_law_outcome
  have hr_law_outcome : Room 10 _ := hr.mono (by decide)
  obtain ⟨f_law_odd, fd_law_odd, g_law_odd, m_law_odd, k_law_odd, b_law_odd⟩ := D_law_odd
  have hr_law_odd : Room 1 _ := hr.mono (by decide)
  obtain ⟨f_law_due, fd_law_due, g_law_due, m_law_due, k_law_due, b_law_due⟩ := D_law_due
  have hr_law_due : Room 5 _ := hr.mono (by decide)
  obtain ⟨f_law_times, fd_law_times, g_law_times, m_law_times, k_law_times, b_law_times⟩ := D_law_times
  have hr_law_times : Room 2 _ := hr.mono (by decide)
  obtain ⟨f_law_product, fd_law_product, g_law_product, m_law_product, k_law_product, b_law_product⟩ := D_law_product
  have hr_law_product : Room 3 _ := hr.mono (by decide)
  obtain ⟨f_law_number, fd_law_number, g_law_number, m_law_number, k_law_number, b_law_number⟩ := D_law_number
  have hr_law_number : Room 2 _ := hr.mono (by decide)
  refine ⟨_, (pss_cons (ps_for PassesOwn.never rfl (pi_range1 rfl T.b_range (pa_cons (pe_op op_add pe_int (pe_callB (call_min2 rfl) (by rfl) T.b_min (by decide +kernel) (pa_cons pe_int (pa_cons (pe_callB (lenK (K := K)) (by rfl) T.b_len PySem.boot_len (pa_cons (pv 0) pa_nil)) pa_nil)))) pa_nil)) (pg_name (i := 1) sc_law.nd rfl (Or.inl rfl)) (pss_cons (ps_set (i := 2) sc_law.nd rfl (Or.inr rfl) (pe_call g_law_number hr_law_number rfl m_law_number k_law_number b_law_number .nil pass0 (pa_cons (pv 0) (pa_cons (pv 1) pa_nil))))
      (pss_cons (ps_set (i := 3) sc_law.nd rfl (Or.inl rfl) (pe_call g_law_number hr_law_number rfl m_law_number k_law_number b_law_number .nil pass0 (pa_cons (pv 0) (pa_cons (pe_op op_add pe_int (pv 1)) pa_nil))))
      (pss_cons (ps_set (i := 4) sc_law.nd rfl (Or.inl rfl) (pe_ix (ixL (K := K)) (pe_lst (pa_cons pe_int (pa_cons pe_int (pa_cons pe_int (pa_cons pe_int (pa_cons pe_int (pa_cons pe_int pa_nil))))))) (pe_op op_mod (pv 2) pe_int) (fun _ _ => rfl)))
      (pss_cons (ps_set (i := 5) sc_law.nd rfl (Or.inr rfl) (pe_op op_add pe_int (pe_op op_mod (pe_op op_fdivZ (pv 2) pe_int) pe_int)))
      (pss_cons (ps_set (i := 6) sc_law.nd rfl (Or.inl rfl) (pe_call g_law_product hr_law_product rfl m_law_product k_law_product b_law_product .nil pass0 (pa_cons (pe_lc (own := [("_law_j", 8)]) (tt := tYes) rfl sc_law.nd (pi_range1 rfl T.b_range (pa_cons (pv 5) pa_nil)) (blkOk_by (N := ["_law_script", "_law_k", "_law_cell", "_law_more", "_law_p", "_law_n", "_law_f", "_law_due_here", "_law_j"]) (sc := defScope s_law) (by decide +kernel)) (fun _ _ _ _ _ => (pg_name (i := 8) sc_law.nd rfl (Or.inl rfl))) (fun _ _ _ _ _ => pts_nil) (fun _ _ _ _ _ => (pe_lst (pa_cons (pe_op op_sub (pe_op op_sub pe_int (pv 8)) (pe_op op_mulW (pv 5) (pe_op op_mod (pe_op op_fdivZ (pe_op op_fdivZ (pv 2) pe_int) (pe_op op_add (pv 8) pe_int)) pe_int))) (pa_cons pe_int pa_nil))))) pa_nil)))
      (pss_cons (ps_if (PW.pt (pw_and (pt_cmpR op_eq (pe_op op_mod (pv 3) pe_int) pe_int (nomark _)) (pw_and1 (pt_cmpR op_lt (pv 5) pe_int (nomark _))))) (pss_one (ps_set (i := 6) sc_law.nd rfl (Or.inl rfl) (pe_call g_law_times hr_law_times rfl m_law_times k_law_times b_law_times .nil pass0 (pa_cons (pv 6) (pa_cons (pe_lst (pa_cons (pe_op op_add pe_int (pe_op op_mod (pe_op op_fdivZ (pv 2) pe_int) pe_int)) (pa_cons (pe_op op_sub (pe_op op_mod (pe_op op_fdivZ (pv 2) pe_int) pe_int) pe_int) (pa_cons pe_int pa_nil)))) pa_nil))))) pss_nil)
      (pss_cons (ps_if (pt_cmpR op_eq (pe_op op_mod (pe_op op_fdivZ (pv 3) pe_int) pe_int) pe_int (nomark _)) (pss_one (ps_set (i := 6) sc_law.nd rfl (Or.inl rfl) (pe_call g_law_product hr_law_product rfl m_law_product k_law_product b_law_product .nil pass0 (pa_cons (pe_op op_cat (pe_lc (own := [("_law_j", 8)]) (tt := tYes) rfl sc_law.nd (pi_range1 rfl T.b_range (pa_cons (pe_op op_add pe_int (pe_op op_mod (pe_op op_fdivZ (pv 2) pe_int) pe_int)) pa_nil)) (blkOk_by (N := ["_law_script", "_law_k", "_law_cell", "_law_more", "_law_p", "_law_n", "_law_f", "_law_due_here", "_law_j"]) (sc := defScope s_law) (by decide +kernel)) (fun _ _ _ _ _ => (pg_name (i := 8) sc_law.nd rfl (Or.inl rfl))) (fun _ _ _ _ _ => pts_nil) (fun _ _ _ _ _ => (pe_lst (pa_cons (pe_op op_sub pe_int (pv 8)) (pa_cons pe_int pa_nil))))) (pe_lst (pa_cons (pe_lst (pa_cons (pe_op op_sub pe_int (pe_op op_mulW (pe_op op_mulW (pe_op op_mulW (pe_op op_mulW (pv 4) (pv 4)) (pv 4)) (pv 4)) (pv 4))) (pa_cons pe_int pa_nil))) pa_nil))) pa_nil)))) pss_nil)
      (pss_cons (ps_if (pt_cmpR op_eq (pe_op op_mod (pe_op op_fdivZ (pv 3) pe_int) pe_int) pe_int (nomark _)) (pss_cons (ps_set (i := 6) sc_law.nd rfl (Or.inl rfl) (pe_call g_law_product hr_law_product rfl m_law_product k_law_product b_law_product .nil pass0 (pa_cons (pe_lst (pa_cons (pe_lst (pa_cons (pe_op op_mod (pe_op op_fdivZ (pv 2) pe_int) pe_int) (pa_cons pe_int pa_nil))) (pa_cons (pe_lst (pa_cons (pe_op op_mod (pe_op op_fdivZ (pv 2) pe_int) pe_int) (pa_cons pe_int pa_nil))) (pa_cons (pe_lst (pa_cons (pe_op op_mod (pe_op op_fdivZ (pv 2) pe_int) pe_int) (pa_cons pe_int pa_nil))) pa_nil)))) pa_nil)))
      (pss_one (ps_set (i := 6) sc_law.nd rfl (Or.inl rfl) (pe_call g_law_times hr_law_times rfl m_law_times k_law_times b_law_times .nil pass0 (pa_cons (pv 6) (pa_cons (pe_call g_law_product hr_law_product rfl m_law_product k_law_product b_law_product .nil pass0 (pa_cons (pe_lc (own := [("_law_j", 8)]) (tt := tYes) rfl sc_law.nd (pi_range1 rfl T.b_range (pa_cons (pe_op op_mod (pe_op op_fdivZ (pv 2) pe_int) pe_int) pa_nil)) (blkOk_by (N := ["_law_script", "_law_k", "_law_cell", "_law_more", "_law_p", "_law_n", "_law_f", "_law_due_here", "_law_j"]) (sc := defScope s_law) (by decide +kernel)) (fun _ _ _ _ _ => (pg_name (i := 8) sc_law.nd rfl (Or.inl rfl))) (fun _ _ _ _ _ => pts_nil) (fun _ _ _ _ _ => (pe_lst (pa_cons (pe_op op_sub (pe_op op_sub pe_int pe_int) (pv 8)) (pa_cons pe_int pa_nil))))) pa_nil)) pa_nil)))))) pss_nil)
      (pss_cons (ps_if (pt_cmpR op_eq (pe_op op_mod (pe_op op_fdivZ (pv 3) pe_int) pe_int) pe_int (nomark _)) (pss_cons (ps_set (i := 6) sc_law.nd rfl (Or.inl rfl) (pe_call g_law_odd hr_law_odd rfl m_law_odd k_law_odd b_law_odd .nil pass0 (pa_cons (pe_op op_fdivZ (pv 2) pe_int) (pa_cons (pv 6) pa_nil))))
      (pss_one (ps_set (i := 7) sc_law.nd rfl (Or.inl rfl) pe_str))) (pss_one (ps_set (i := 7) sc_law.nd rfl (Or.inl rfl) (pe_call g_law_due hr_law_due rfl m_law_due k_law_due b_law_due .nil pass0 (pa_cons (pv 6) (pa_cons (pv 4) pa_nil))))))
      (pss_cons (ps_if (pt_cmpR op_eq (pe_op op_mod (pe_op op_fdivZ (pv 3) pe_int) pe_int) pe_int (nomark _)) (pss_cons (ps_set (i := 4) sc_law.nd rfl (Or.inl rfl) (pe_ix (ixL (K := K)) (pe_lst (pa_cons pe_int (pa_cons pe_int (pa_cons pe_int (pa_cons pe_int (pa_cons (pe_un un_neg pe_int) (pa_cons pe_bl (pa_cons pe_non (pa_cons pe_str (pa_cons (pe_lst (pa_cons pe_int pa_nil)) (pa_cons (pe_tup (pa_cons pe_int pa_nil)) (pa_cons pe_int (pa_cons (pe_op op_pow pe_int pe_int) pa_nil))))))))))))) (pe_op op_mod (pe_op op_fdivZ (pv 2) pe_int) pe_int) (fun _ _ => rfl)))
      (pss_one (ps_set (i := 7) sc_law.nd rfl (Or.inl rfl) pe_str))) pss_nil)
      (pss_one (ps_if (pt_cmpR op_ne (pe_call g_law_outcome hr_law_outcome rfl m_law_outcome k_law_outcome b_law_outcome .nil pass0 (pa_cons (pv 6) (pa_cons (pv 4) pa_nil))) (pv 7) (nomark _)) (pss_one (ps_ret pe_bl)) pss_nil)))))))))))))
      (pss_one (ps_ret pe_bl))), ?_⟩
  have F0 := Fr.start e
  have hmin : min (5 : Int) (x.ns.length : Int) ≤ 5 := by omega
  have hmin0 : 0 ≤ min (5 : Int) (x.ns.length : Int) := by omega
  refine st_seq ?_
  refine st_for1 F0 (ea_cons (ev_I0 (ev_int (i := 1)) (ev_min (ev_int (i := 5)) (ev_lenS (ev_var rfl hx)))) ea_nil) (by omega) (by omega)
    (fun k σ H' => ∃ G' o1 o2 o3 o4 o5 o6 o7 o8, Fr G H G' [] H' ∧ σ = [some v, o1, o2, o3, o4, o5, o6, o7, o8]) (fun G2 H2 F2 e2 => ⟨G2, none, none, none, none, none, none, none, none, F2, rfl⟩) ?_ ?_
  · rintro k σ H2 hk ⟨G2, o1, o2, o3, o4, o5, o6, o7, o8, F2, rfl⟩
    have hk : k < 6 := by omega
    have hx2 := Den.mono F2.s.g hx
    refine st_seq (st_num F2 (ea_cons (ev_var rfl hx2) (ea_cons (ev_var (x := (k : Int)) rfl rfl) ea_nil)) (by omega) (by omega) fun cell G3 H3 F3 e3 => ?_)
    dsimp only
    refine st_seq (st_num F3 (ea_cons (ev_var rfl (Den.mono e3 hx2)) (ea_cons ((ev_I0 (ev_int (i := 20)) (ev_var (x := (k : Int)) rfl rfl)).cast (y := ((20 + k : Nat) : Int)) (by omega)) ea_nil)) (by omega) (by omega) fun more G4 H4 F4 e4 => ?_)
    have m6 := Int.emod_nonneg cell (show (6 : Int) ≠ 0 by decide)
    have n6 := Int.emod_lt_of_pos cell (show (0 : Int) < 6 by decide)
    have hxq : lawP[(cell % 6).toNat]? = some (lawP[(cell % 6).toNat]'(by show _ < 6; omega)) := List.getElem?_eq_getElem _
    have hq := List.mem_iff_getElem?.mpr ⟨_, hxq⟩
    dsimp only
    refine st_seq (st_setI F4 (ev_ix (k := (cell % 6).toNat) (EvL.ev (el_lst (xs := lawP) (eas_cons ev_int (eas_cons ev_int (eas_cons ev_int (eas_cons ev_int (eas_cons ev_int (eas_cons ev_int eas_nil)))))) (by decide))) (ev_I (ev_var (x := cell) rfl rfl) (ev_int (i := 6)) (by show (0 : Int) < 6; decide)) (by omega) hxq) fun G5 H5 F5 e5 => ?_)
    generalize (lawP[(cell % 6).toNat]'(by show _ < 6; omega)) = qq at *
    have hpr : (El.int qq).prime = true := by
      simp only [lawP, List.mem_cons, List.not_mem_nil, or_false] at hq
      rcases hq with rfl | rfl | rfl | rfl | rfl | rfl <;> (show (prs.any fun y => y == _) = true; decide +kernel)
    have hq47 := primes_rng hpr
    have hd6 := Int.emod_nonneg (cell / 6) (show (6 : Int) ≠ 0 by decide)
    have hd7 := Int.emod_lt_of_pos (cell / 6) (show (0 : Int) < 6 by decide)
    obtain ⟨n, hn⟩ : ∃ n : Nat, 1 + cell / 6 % 6 = (n : Int) := ⟨(1 + cell / 6 % 6).toNat, by omega⟩
    dsimp only
    refine st_seq (st_setI F5 ((ev_I0 (ev_int (i := 1)) (ev_I (ev_I (ev_var (x := cell) rfl rfl) (ev_int (i := 6)) (cdivS (by decide) (by decide))) (ev_int (i := 6)) (by show (0 : Int) < 6; decide))).cast (y := (n : Int)) (by rw [fdivE (by decide)]; exact hn)) fun G6 H6 F6 e6 => ?_)
    have n1 : 1 ≤ n := by omega
    have n6' : n ≤ 6 := by omega
    have lp : ∀ (m : Nat) (F : Nat → Int), m ≤ 12 → (∀ j, j < m → (F j).natAbs ≤ 2 ^ 59) → LpPre ((List.range m).map fun j : Nat => ([F j, 1] : Bd.L), ()) := fun m F hm hF => ⟨by simp; omega, fun g hg => by
      obtain ⟨j, hj, rfl⟩ := List.mem_map.mp hg
      exact lin2 (hF j (List.mem_range.mp hj))⟩
    dsimp only
    refine st_seq (st_set F6 (ev_call (Pre := LpPre) (F := fun x : LL × Unit => lProd x.1) (x := ((List.range n).map fun j : Nat => ([0 - (j : Int) - n * Tm (cell / 64) j, 1] : Bd.L), ())) (ea_cons (EvL.ev (el_lcR (n := (n : Int)) (ea_cons (ev_var rfl rfl) ea_nil) (by simp) (by omega) (by omega) (fun _ => rfl) fun j y' G' e' hy' => ?_)) ea_nil) (lp n _ (by omega) fun j hj => ?_)) fun vf G7 H7 F7 e7 d7 => ?_)
    · obtain ⟨hj, rfl⟩ := range_at hy'
      have ht := Tm_rng (cell / 64) j
      refine EvL.ev (el_lst (xs := [0 - (j : Int) - n * Tm (cell / 64) j, 1]) (eas_cons (ev_I0 (ev_I0 (ev_int (i := 0)) (ev_var (x := (j : Int)) rfl rfl)) (ev_I (ev_var (x := (n : Int)) rfl rfl) ((ev_I (ev_I (ev_I (ev_var (x := cell) rfl rfl) (ev_int (i := 64)) (cdivS (by decide) (by decide))) (ev_I0 (ev_var (x := (j : Int)) rfl rfl) (ev_int (i := 1))) (cdivS (by omega) (by omega))) (ev_int (i := 3)) (by show (0 : Int) < 3; decide)).cast (y := Tm (cell / 64) j) (by rw [fdivE (i := cell) (by decide), fdivE (show (0 : Int) ≤ (j : Int) + 1 by omega)]; rfl)) (cmul (a := 3) (b := 3) (by omega) (by omega) (by decide)))) (eas_cons ev_int eas_nil)) (by show 2 ≤ 1000; decide))
    · have ht := Tm_rng (cell / 64) j
      have : (n : Int) * Tm (cell / 64) j ≤ 6 * 2 := Int.mul_le_mul (by omega) ht.2 ht.1 (by omega)
      have : 0 ≤ (n : Int) * Tm (cell / 64) j := Int.mul_nonneg (by omega) ht.1
      omega
    have d7 : Den.D G7 vf (fBase n (Tm (cell / 64))) := d7
    have FB := FF.base qq hq n n1 n6' (cell / 64)
    have sm : ∀ {i : Int} {a : Int}, a ≠ 0 → a.natAbs ≤ 1000000 → CDivZ i a := fun h1 h2 => cdivS h1 h2
    dsimp only
    refine st_seq (st_ifJ (fun σ H' => ∃ G' vf f, Fr G H G' [] H' ∧ Den.D G' vf f ∧ Fine f qq ∧ σ = [some v, some (.int (k : Int)), some (.int cell), some (.int more), some (.int qq), some (.int (n : Int)), some vf, o7, o8]) F7 (et_and (et_test (ev_eqI (ev_I (ev_var (x := more) rfl rfl) (ev_int (i := 4)) (by show (0 : Int) < 4; decide)) (ev_int (i := 1)))) fun _ => et_test (ev_B0 (ev_var (x := (n : Int)) rfl rfl) (ev_int (i := 5)))) ?_ (fun hb D'' hD G8 H8 F8 e8 => ?_) (fun hb D'' hD G8 H8 F8 e8 => ?_))
    rotate_left
    · have hn5 : n ≤ 4 := by simp at hb; omega
      have h9 := Int.emod_nonneg (cell / 97) (show (9 : Int) ≠ 0 by decide)
      have h9' := Int.emod_lt_of_pos (cell / 97) (show (0 : Int) < 9 by decide)
      have g9 := Int.emod_nonneg (cell / 873) (show (9 : Int) ≠ 0 by decide)
      have g9' := Int.emod_lt_of_pos (cell / 873) (show (0 : Int) < 9 by decide)
      refine st_set F8 (ev_call (Pre := LtPre) (F := fun x : Bd.L × Bd.L × Unit => lTimes x.1 x.2.1) (x := (fBase n (Tm (cell / 64)), [1 + cell / 97 % 9, cell / 873 % 9 - 4, 1], ())) (ea_cons (ev_var rfl (Den.mono e8 d7)) (ea_cons (EvL.ev (el_lst (eas_cons ((ev_I0 (ev_int (i := 1)) (ev_I (ev_I (ev_var (x := cell) rfl rfl) (ev_int (i := 97)) (cdivS (by decide) (by decide))) (ev_int (i := 9)) (by show (0 : Int) < 9; decide))).cast (by rw [fdivE (by decide)])) (eas_cons ((ev_I0 (ev_I (ev_I (ev_var (x := cell) rfl rfl) (ev_int (i := 873)) (cdivS (by decide) (by decide))) (ev_int (i := 9)) (by show (0 : Int) < 9; decide)) (ev_int (i := 4))).cast (by rw [fdivE (by decide)])) (eas_cons (ev_int (i := 1)) eas_nil))) (by show 3 ≤ 1000; decide))) ea_nil)) ⟨by have := FB.di.f1; dsimp only at this ⊢; omega, by show 3 ≤ 60; decide, 100, 60, FB.di.bf, fun j => ?_, by decide⟩) fun v9 G9 H9 F9 e9 d9 => hD _ _ ⟨G9, v9, _, F9, d9, FF.quad qq hq n n1 hn5 (cell / 64) _ _ (by omega) (by omega) (by omega) (by omega), rfl⟩
      match j with
      | 0 => exact Nat.le_trans (show (1 + cell / 97 % 9).natAbs ≤ 2 ^ 4 by omega) (Nat.pow_le_pow_right (by decide) (by decide))
      | 1 => exact Nat.le_trans (show (cell / 873 % 9 - 4).natAbs ≤ 2 ^ 4 by omega) (Nat.pow_le_pow_right (by decide) (by decide))
      | 2 => exact Nat.pow_pos (show 0 < 2 by decide)
      | j + 3 => rw [at_cons_succ, at_cons_succ, at_cons_succ, at_nil]; exact Nat.zero_le _
    · exact hD _ _ ⟨G8, vf, _, F8, Den.mono e8 d7, FB, rfl⟩
    rintro σ H8 ⟨G8, vf8, f8, F8, d8, K8, rfl⟩
    dsimp only
    refine st_seq (st_ifJ (fun σ H' => ∃ G' vf f, Fr G H G' [] H' ∧ Den.D G' vf f ∧ Fine f qq ∧ σ = [some v, some (.int (k : Int)), some (.int cell), some (.int more), some (.int qq), some (.int (n : Int)), some vf, o7, o8]) F8 (et_test (ev_eqI (ev_I (ev_I (ev_var (x := more) rfl rfl) (ev_int (i := 4)) (cdivS (by decide) (by decide))) (ev_int (i := 3)) (by show (0 : Int) < 3; decide)) (ev_int (i := 1)))) ?_ (fun hb D'' hD G9 H9 F9 e9 => ?_) (fun hb D'' hD G9 H9 F9 e9 => ?_))
    rotate_left
    · have h3 := Int.emod_nonneg (cell / 5) (show (3 : Int) ≠ 0 by decide)
      have h3' := Int.emod_lt_of_pos (cell / 5) (show (0 : Int) < 3 by decide)
      obtain ⟨ee, hee⟩ : ∃ ee : Nat, cell / 5 % 3 = (ee : Int) := ⟨(cell / 5 % 3).toNat, by omega⟩
      have q6 : qq.natAbs ≤ 2 ^ 6 := by omega
      have p2 := natAbs_mul_le q6 q6
      have p3 := natAbs_mul_le p2 q6
      have p4 := natAbs_mul_le p3 q6
      have p5 := natAbs_mul_le p4 q6
      have ev5 : ∀ {σ : L2.St} {G' : Hp}, σ[4]? = some (some (.int qq)) → Ev (tOp (rI CMulW fun i j => .int (i * j)) (tOp (rI CMulW fun i j => .int (i * j)) (tOp (rI CMulW fun i j => .int (i * j)) (tOp (rI CMulW fun i j => .int (i * j)) (tVar 4) (tVar 4)) (tVar 4)) (tVar 4)) (tVar 4)) σ G' [] (qq * qq * qq * qq * qq) := fun h =>
        ev_I (ev_I (ev_I (ev_I (ev_var h rfl) (ev_var h rfl) (cmul q6 q6 (by decide))) (ev_var h rfl) (cmul p2 q6 (by decide))) (ev_var h rfl) (cmul p3 q6 (by decide))) (ev_var h rfl) (cmul p4 q6 (by decide))
      refine st_set F9 (ev_call (Pre := LpPre) (F := fun x : LL × Unit => lProd x.1) (x := (((List.range (5 + ee)).map fun j : Nat => ([0 - (j : Int), 1] : Bd.L)) ++ [[0 - qq * qq * qq * qq * qq, 1]], ())) (ea_cons (EvL.ev (el_cat (EvL.ev (el_lcR (n := ((5 + ee : Nat) : Int)) (ea_cons ((ev_I0 (ev_int (i := 5)) (ev_I (ev_I (ev_var (x := cell) rfl rfl) (ev_int (i := 5)) (cdivS (by decide) (by decide))) (ev_int (i := 3)) (by show (0 : Int) < 3; decide))).cast (by rw [fdivE (by decide)]; omega)) ea_nil) (by rw [List.length_map, List.length_range]; exact (Int.toNat_natCast _).symm) (by omega) (by omega) (fun _ => rfl) fun j y' G' e' hy' => ?_)) (EvL.ev (el_one (EvL.ev (el_lst (eas_cons (ev_I0 (ev_int (i := 0)) (ev5 rfl)) (eas_cons (ev_int (i := 1)) eas_nil)) (by show 2 ≤ 1000; decide))))) (by simp; omega))) ea_nil) ⟨by simp; omega, fun g hg => ?_⟩) fun v10 G10 H10 F10 e10 d10 => hD _ _ ⟨G10, v10, _, F10, d10, FF.five qq hq ee (by omega), rfl⟩
      · obtain ⟨hj, rfl⟩ := range_at hy'
        exact EvL.ev (el_lst (eas_cons (ev_I0 (ev_int (i := 0)) (ev_var (x := (j : Int)) rfl rfl)) (eas_cons (ev_int (i := 1)) eas_nil)) (by show 2 ≤ 1000; decide))
      · rcases List.mem_append.mp hg with hg | hg
        · obtain ⟨j, hj, rfl⟩ := List.mem_map.mp hg
          have := List.mem_range.mp hj
          exact lin2 (Nat.le_trans (show (0 - (j : Int)).natAbs ≤ 2 ^ 4 by omega) (Nat.pow_le_pow_right (by decide) (by decide)))
        · rw [List.mem_singleton.mp hg]
          refine lin2 ?_
          rw [Int.zero_sub, Int.natAbs_neg]
          exact up2 p5 (by decide)
    · exact nxt (hD _ _ ⟨G9, vf8, f8, F9, Den.mono e9 d8, K8, rfl⟩)
    rintro σ H9 ⟨G9, vf9, f9, F9, d9, K9, rfl⟩
    dsimp only
    refine st_seq (st_ifJ (fun σ H' => ∃ G' vf f, Fr G H G' [] H' ∧ Den.D G' vf f ∧ Fine f qq ∧ σ = [some v, some (.int (k : Int)), some (.int cell), some (.int more), some (.int qq), some (.int (n : Int)), some vf, o7, o8]) F9 (et_test (ev_eqI (ev_I (ev_I (ev_var (x := more) rfl rfl) (ev_int (i := 12)) (cdivS (by decide) (by decide))) (ev_int (i := 4)) (by show (0 : Int) < 4; decide)) (ev_int (i := 1)))) ?_ (fun hb D'' hD G10 H10 F10 e10 => ?_) (fun hb D'' hD G10 H10 F10 e10 => ?_))
    rotate_left
    · have a0 := Int.emod_nonneg (cell / 7) (show (5 : Int) ≠ 0 by decide)
      have a1 := Int.emod_lt_of_pos (cell / 7) (show (0 : Int) < 5 by decide)
      have b0 := Int.emod_nonneg (cell / 11) (show (9 : Int) ≠ 0 by decide)
      have b1 := Int.emod_lt_of_pos (cell / 11) (show (0 : Int) < 9 by decide)
      have c0 := Int.emod_nonneg (cell / 13) (show (7 : Int) ≠ 0 by decide)
      have c1 := Int.emod_lt_of_pos (cell / 13) (show (0 : Int) < 7 by decide)
      obtain ⟨ee, hee⟩ : ∃ ee : Nat, cell / 13 % 7 = (ee : Int) := ⟨(cell / 13 % 7).toNat, by omega⟩
      have lin : ∀ {σ : L2.St} {G' : Hp} {te : TE} {z : Int}, Ev te σ G' [] z → Ev (tLst (tCons te (tCons (tC (.int 1)) tNil))) σ G' [] ([z, 1] : Bd.L) := fun h => EvL.ev (el_lst (eas_cons h (eas_cons (ev_int (i := 1)) eas_nil)) (by show 2 ≤ 1000; decide))
      have md : ∀ {σ : L2.St} {G' : Hp} {i : Nat} {x a m : Int}, σ[i]? = some (some (.int x)) → 0 < a → a ≤ 1000000 → 0 < m → Ev (tOp (rI (fun _ j => 0 < j) fun i j => .int (i % j)) (tOp (rI CDivZ fun i j => .int (i.fdiv j)) (tVar i) (tC (.int a))) (tC (.int m))) σ G' [] (x / a % m) := fun h ha hb hm => (ev_I (ev_I (ev_var h rfl) ev_int (cdivS (by omega) (by omega))) ev_int hm).cast (by rw [fdivE (by omega)])
      have small : ∀ z : Int, z.natAbs ≤ 2 ^ 5 → z.natAbs ≤ 2 ^ 59 := fun z hz => Nat.le_trans hz (Nat.pow_le_pow_right (by decide) (by decide))
      refine st_seq (st_set F10 (ev_call (Pre := LpPre) (F := fun x : LL × Unit => lProd x.1) (x := ([[cell / 7 % 5, 1], [cell / 7 % 5, 1], [cell / 11 % 9, 1]], ())) (ea_cons (EvL.ev (el_lst (eas_cons (lin (md rfl (by decide) (by decide) (by decide))) (eas_cons (lin (md rfl (by decide) (by decide) (by decide))) (eas_cons (lin (md rfl (by decide) (by decide) (by decide))) eas_nil))) (by show 3 ≤ 1000; decide))) ea_nil) ⟨by show 3 ≤ 12; decide, fun g hg => ?_⟩) fun v11 G11 H11 F11 e11 d11 => ?_)
      · simp only [List.mem_cons, List.not_mem_nil, or_false] at hg
        rcases hg with rfl | rfl | rfl
        · exact lin2 (small _ (by omega))
        · exact lin2 (small _ (by omega))
        · exact lin2 (small _ (by omega))
      dsimp only
      have d11 : Den.D G11 v11 (lProd [[cell / 7 % 5, 1], [cell / 7 % 5, 1], [cell / 11 % 9, 1]]) := d11
      refine st_set F11 (ev_sq (a := cell / 7 % 5) (d := cell / 11 % 9) (ee := ee) ⟨a0, a1⟩ ⟨b0, b1⟩ (by omega) rfl d11 ?_) fun v12 G12 H12 F12 e12 d12 => hD _ _ ⟨G12, v12, _, F12, d12, FF.sq qq hq _ _ a0 a1 b0 b1 ee (by omega), rfl⟩
      refine ev_call (Pre := LpPre) (F := fun x : LL × Unit => lProd x.1) (x := ((List.range ee).map fun j : Nat => ([0 - 10 - (j : Int), 1] : Bd.L), ())) (ea_cons (EvL.ev (el_lcR (n := (ee : Int)) (ea_cons ((ev_I (ev_I (ev_var (x := cell) rfl rfl) (ev_int (i := 13)) (cdivS (by decide) (by decide))) (ev_int (i := 7)) (by show (0 : Int) < 7; decide)).cast (y := (ee : Int)) (by rw [fdivE (by decide)]; exact hee)) ea_nil) (by rw [List.length_map, List.length_range]; exact (Int.toNat_natCast _).symm) (by omega) (by omega) (fun _ => rfl) fun j y' G' e' hy' => ?_)) ea_nil) (lp ee _ (by omega) fun j hj => small _ (by omega))
      obtain ⟨hj, rfl⟩ := range_at hy'
      exact EvL.ev (el_lst (eas_cons (ev_I0 (ev_I0 (ev_int (i := 0)) (ev_int (i := 10))) (ev_var (x := (j : Int)) rfl rfl)) (eas_cons (ev_int (i := 1)) eas_nil)) (by show 2 ≤ 1000; decide))
    · exact nxt (hD _ _ ⟨G10, vf9, f9, F10, Den.mono e10 d9, K9, rfl⟩)
    rintro σ H10 ⟨G10, vf10, f10, F10, d10, K10, rfl⟩
    dsimp only
    refine st_seq (st_ifJ (fun σ H' => ∃ G' vf vr, ∃ ff : Fi, ∃ r : El, Fr G H G' [] H' ∧ Den.D G' vf ff ∧ Den.D G' vr r ∧ ff.ok ∧ OutIs ff (.int qq) r ∧ σ = [some v, some (.int (k : Int)), some (.int cell), some (.int more), some (.int qq), some (.int (n : Int)), some vf, some vr, o8]) F10 (et_test (ev_eqI (ev_I (ev_I (ev_var (x := more) rfl rfl) (ev_int (i := 48)) (cdivS (by decide) (by decide))) (ev_int (i := 4)) (by show (0 : Int) < 4; decide)) (ev_int (i := 1)))) ?_ (fun hb D'' hD G11 H11 F11 e11 => ?_) (fun hb D'' hD G11 H11 F11 e11 => ?_))
    rotate_left
    · refine st_seq (st_odd (f := f10) (c := cell.fdiv 13) F11 (ea_cons (ev_I (ev_var (x := cell) rfl rfl) (ev_int (i := 13)) (cdivS (by decide) (by decide))) (ea_cons (ev_var rfl (Den.mono e11 d10)) ea_nil)) K10.di.f0 K10.di.f1 fun x vx G12 H12 F12 e12 d12 xok xbad => ?_)
      dsimp only
      exact st_set F12 (x := El.str "polynomial") ev_str fun vs G13 H13 F13 e13 d13 => hD _ _ ⟨G13, vx, vs, x, .str "polynomial", F13, Den.mono e13 d12, d13, xok, .poly hpr xbad, rfl⟩
    · exact st_set F11 (ev_call (Pre := DuPre) (F := fun x : Bd.L × Int × Unit => dueOf x.1 x.2.1) (x := (f10, qq, ())) (ea_cons (ev_var rfl (Den.mono e11 d10)) (ea_cons (ev_var rfl rfl) ea_nil)) ⟨K10.di, by show 2 ≤ qq; omega, by show qq ≤ 1000; omega⟩) fun vr G12 H12 F12 e12 d12 => hD _ _ ⟨G12, vf10, vr, .ls (f10.map El.int), dueOf f10 qq, F12, d_fiL (Den.mono (e11.trans e12) d10), d12, ok_fiL K10.di.f1, .num hpr K10.gd K10.di K10.rd, rfl⟩
    rintro σ H11 ⟨G11, vf11, vr11, ff, r, F11, d11, dr11, hok, ho, rfl⟩
    dsimp only
    refine st_seq (st_ifJ (fun σ H' => ∃ G' vp vr, ∃ pp r : El, Fr G H G' [] H' ∧ Den.D G' vf11 ff ∧ Den.D G' vp pp ∧ Den.D G' vr r ∧ OutIs ff pp r ∧ σ = [some v, some (.int (k : Int)), some (.int cell), some (.int more), some vp, some (.int (n : Int)), some vf11, some vr, o8]) F11 (et_test (ev_eqI (ev_I (ev_I (ev_var (x := more) rfl rfl) (ev_int (i := 192)) (cdivS (by decide) (by decide))) (ev_int (i := 4)) (by show (0 : Int) < 4; decide)) (ev_int (i := 1)))) ?_ (fun hb D'' hD G12 H12 F12 e12 => ?_) (fun hb D'' hD G12 H12 F12 e12 => ?_))
    rotate_left
    · have m12 := Int.emod_nonneg (cell.fdiv 17) (show (12 : Int) ≠ 0 by decide)
      have n12 := Int.emod_lt_of_pos (cell.fdiv 17) (show (0 : Int) < 12 by decide)
      have hx : oddP[(cell.fdiv 17 % 12).toNat]? = some (oddP[(cell.fdiv 17 % 12).toNat]'(by show _ < 12; omega)) := List.getElem?_eq_getElem _
      have hy := oddP_ok _ (List.mem_iff_getElem?.mpr ⟨_, hx⟩)
      generalize (oddP[(cell.fdiv 17 % 12).toNat]'(by show _ < 12; omega)) = y at *
      refine st_seq (st_set F12 (ev_ix (k := (cell.fdiv 17 % 12).toNat) (EvL.ev (el_lst (xs := oddP) (eas_cons (ev_elI ev_int) (eas_cons (ev_elI ev_int) (eas_cons (ev_elI ev_int) (eas_cons (ev_elI ev_int) (eas_cons (ev_elI (ev_neg ev_int)) (eas_cons ev_elB (eas_cons ev_elN (eas_cons ev_str (eas_cons (ev_elL (EvL.ev (el_one (ev_int (i := 2))))) (eas_cons ev_tup1 (eas_cons (ev_elI ev_int) (eas_cons (ev_elI ((ev_I (ev_int (i := 10)) (ev_int (i := 30)) (by unfold CPow; decide +kernel)).cast (y := 1000000000000000000000000000000) (by decide +kernel))) eas_nil)))))))))))) (by show 12 ≤ 1000; decide))) (ev_I (ev_I (ev_var (x := cell) rfl rfl) (ev_int (i := 17)) (cdivS (by decide) (by decide))) (ev_int (i := 12)) (by show (0 : Int) < 12; decide)) (by omega) hx) fun vp G13 H13 F13 e13 dp13 => ?_)
      dsimp only
      exact st_set F13 (x := El.str "prime") ev_str fun vs G14 H14 F14 e14 d14 => hD _ _ ⟨G14, vp, vs, y, .str "prime", F14, Den.mono ((e12.trans e13).trans e14) d11, Den.mono e14 dp13, d14, .prime hy, rfl⟩
    · exact nxt (hD _ _ ⟨G12, .int qq, vr11, .int qq, r, F12, Den.mono e12 d11, rfl, Den.mono e12 dr11, ho, rfl⟩)
    rintro σ H12 ⟨G12, vp12, vr12, pp, r2, F12, d12, dp12, dr12, ho2, rfl⟩
    dsimp only
    exact st_if F12 (et_test (ev_neSame (ev_out (x := ff) (p := pp) (r := r2) (ea_cons (ev_var rfl d12) (ea_cons (ev_var rfl dp12) ea_nil)) hok ho2) (ev_var rfl dr12) ho2.flat)) (fun hb => by cases hb) (fun _ G14 H14 F14 e14 => nxt ⟨G14, _, _, _, _, _, _, _, _, F14, rfl⟩)
  · rintro σ H2 ⟨G2, o1, o2, o3, o4, o5, o6, o7, o8, F2, rfl⟩
    dsimp only
    exact st_ret F2 (ev_bl (b := true)) fun v G3 H3 s3 d3 => by
      obtain rfl : v = V.bl true := d3
      show Q (V.bl true) H3
      exact q G3 H3 s3
end
end Bw
set_option Elab.async false
set_option linter.all false
set_option maxRecDepth 100000
set_option maxHeartbeats 4000000
namespace Bw
open PySem L2 Bd
theorem rst_sharp {f g : L} {n c : Nat} (fl : f.length = n + 1) (gl : g.length ≤ n) (bf : Bn c f) (bg : Bn (c + 4) g) (i : Nat) : (rst f g i).length ≤ n ∧ Bn (c + 4 + i * (c + 1)) (rst f g i) := by
  induction i with
  | zero =>
    refine ⟨Nat.le_trans (dv_len _ _) (by omega), (dv_bn bg bf (by omega)).mono ?_⟩
    have : g.length + 1 - f.length = 0 := by omega
    rw [this]; omega
  | succ i ih =>
    have e : rst f g (i + 1) = (dv (0 :: rst f g i) f).2 := rfl
    rw [e]
    refine ⟨Nat.le_trans (dv_len _ _) (by omega), (dv_bn ih.2.cons0 bf (by omega)).mono ?_⟩
    have : ((0 :: rst f g i).length + 1 - f.length) * (c + 1) ≤ 1 * (c + 1) := Nat.mul_le_mul_right _ (by rw [List.length_cons]; have := ih.1; omega)
    rw [Nat.succ_mul]
    omega
theorem sq_resTab (f g : L) (n : Nat) : Sq (resTab f g n n) n := ⟨by simp [resTab], fun i hi => by
  unfold resTab
  rw [List.getD_eq_getElem?_getD, List.getElem?_map, List.getElem?_range hi]
  exact len_tab _ _⟩
theorem deriv_len (f : L) : (deriv f).length ≤ f.length - 1 := by
  unfold deriv
  exact Nat.le_trans (trim_le _) (by rw [len_tab]; omega)
theorem detOk_of {f : L} {n c : Nat} (fl : f.length = n + 1) (n9 : n ≤ 9) (bf : Bn c f) (hb : c + 4 + n * (c + 1) ≤ 1000) (h : 2 ^ n * (c + 4 + n * (c + 1) + 1) ≤ 72000) : DetOk (resTab f (deriv f) n n) n := by
  refine ⟨n9, sq_resTab _ _ _, _, hb, fun r hr => ?_, h⟩
  unfold resTab at hr
  obtain ⟨i, hi, rfl⟩ := List.mem_map.mp hr
  have hi := List.mem_range.mp hi
  have k := (rst_sharp fl (by have := deriv_len f; omega) bf (deriv_bn bf (by omega)).1 i).2
  intro j
  rw [at_tab]
  split
  · refine k.mono ?_ j
    have : i * (c + 1) ≤ n * (c + 1) := Nat.mul_le_mul_right _ (by omega)
    omega
  · exact Nat.zero_le _
def okT (f : L) (n b : Nat) : Bool := (resTab f (deriv f) n n).all fun r => r.all fun x => decide (x.natAbs ≤ 2 ^ b)
theorem bn_of_all {r : L} {b : Nat} (h : r.all (fun x => decide (x.natAbs ≤ 2 ^ b)) = true) : Bn b r := fun k => by
  unfold at_
  rw [List.getD_eq_getElem?_getD]
  cases hk : r[k]? with
  | none => exact Nat.zero_le _
  | some x => exact of_decide_eq_true (List.all_eq_true.mp h x (List.mem_of_getElem? hk))
theorem detOk_chk {f : L} {n b : Nat} (n9 : n ≤ 9) (hb : b ≤ 1000) (h : 2 ^ n * (b + 1) ≤ 72000) (ok : okT f n b = true) : DetOk (resTab f (deriv f) n n) n :=
  ⟨n9, sq_resTab _ _ _, b, hb, fun r hr => bn_of_all (List.all_eq_true.mp ok r hr), h⟩
/-! good -/
theorem mon_good {f : L} {n : Nat} (M : Mon f n) (n1 : 1 ≤ n) (n9 : n ≤ 9) : (Fi.ls (f.map El.int)).good = true := by
  have hl : (f.map El.int).getLast? = some (.int 1) := by
    rw [List.getLast?_eq_getElem?, List.length_map, List.getElem?_map, M.len]
    have := M.one
    unfold at_ at this
    rw [List.getD_eq_getElem?_getD] at this
    have hx : f[n + 1 - 1]? = some (f[n]'(by rw [M.len]; omega)) := List.getElem?_eq_getElem _
    rw [hx]
    rw [List.getElem?_eq_getElem (by rw [M.len]; omega)] at this
    have this : f[n]'(by rw [M.len]; omega) = 1 := this
    rw [this]; rfl
  have hw : (f.map El.int).all El.whole = true := by
    rw [List.all_eq_true]
    intro x hx
    obtain ⟨i, _, rfl⟩ := List.mem_map.mp hx
    rfl
  have h1 : decide (2 ≤ (f.map El.int).length) = true := decide_eq_true (by rw [List.length_map, M.len]; omega)
  have h2 : decide ((f.map El.int).length ≤ 13) = true := decide_eq_true (by rw [List.length_map, M.len]; omega)
  show (((f.map El.int).all El.whole && (match (f.map El.int).getLast? with | none => true | some (.int i) => decide (i ≠ 0) | some _ => false)) && (decide (2 ≤ (f.map El.int).length) && decide ((f.map El.int).length ≤ 13)) && (match (f.map El.int).getLast? with | some (.int i) => decide (i = 1) | _ => false)) = true
  rw [hl, hw, h1, h2]; rfl
/-! rounds -/
theorem SI_le {n : Nat} {f g : Nat → Int} (h : ∀ i, i < n → f i ≤ g i) : SI n f ≤ SI n g := by
  induction n with
  | zero => exact Int.le_refl _
  | succ n ih => rw [SI_succ, SI_succ]; have := ih fun i hi => h i (by omega); have := h n (by omega); omega
theorem SI_lt {n : Nat} {f g : Nat → Int} (h : ∀ i, i < n → f i ≤ g i) {k : Nat} (hk : k < n) (hlt : f k < g k) : SI n f < SI n g := by
  induction n with
  | zero => omega
  | succ n ih =>
    rw [SI_succ, SI_succ]
    by_cases e : k = n
    · subst e
      have := SI_le (n := k) (f := f) (g := g) fun i hi => h i (by omega)
      omega
    · have := ih (fun i hi => h i (by omega)) (by omega)
      have := h n (by omega)
      omega
theorem SI_top {n : Nat} {f : Nat → Int} {M : Int} (h : ∀ i, i < n → f i ≤ M) : SI n f ≤ n * M := by
  induction n with
  | zero => rw [SI_zero]; simp
  | succ n ih =>
    rw [SI_succ]; have := ih fun i hi => h i (by omega); have := h n (by omega)
    rw [Int.natCast_succ, Int.add_mul]; omega
theorem ks_eq {b b' : B} {n : Nat} (h : b.length = n) (h' : b'.length = n) (e : ∀ d, d < n → kOf b d = kOf b' d) : ks b = ks b' := by
  unfold ks
  refine List.ext_getElem (by simp [h, h']) fun i h1 h2 => ?_
  rw [List.length_map] at h1 h2
  have := e i (by omega)
  unfold kOf at this
  rw [List.getD_eq_getElem?_getD, List.getD_eq_getElem?_getD, List.getElem?_eq_getElem h1, List.getElem?_eq_getElem h2] at this
  rw [List.getElem_map, List.getElem_map]
  exact this
theorem mem_b {b : B} {gk : L × Int} (h : gk ∈ b) : ∃ d, d < b.length ∧ gk.1 = gOf b d ∧ gk.2 = kOf b d := by
  obtain ⟨d, hd, rfl⟩ := List.getElem_of_mem h
  refine ⟨d, hd, ?_, ?_⟩
  · unfold gOf; rw [List.getD_eq_getElem?_getD, List.getElem?_eq_getElem hd]; rfl
  · unfold kOf; rw [List.getD_eq_getElem?_getD, List.getElem?_eq_getElem hd]; rfl
theorem rounds_of {f : L} {n p : Nat} (p47 : p ≤ 47) (n9 : n ≤ 9) (bf : Bn 100 f) (PK : Pack f n p 200) : ∃ Inv ms, Rounds f (p : Int) Inv ms := by
  obtain ⟨A, _, t, π, X, hB⟩ := PK.ex
  have fl := X.fl
  have n0 := X.n0
  have hn : f.length - 1 = n := by omega
  refine ⟨fun b => OrdOk t π p n b, fun b => ((n : Int) * 200 - SI n (kOf b)).toNat, ⟨?_, ?_, fun b O => (step_ok X O).1, fun b O hk => ?_⟩⟩
  · rw [hn]; exact basis0_ok X
  · intro C b O
    have bl := O.G.len
    have hp0 := X.P.two
    have t0 := O.G.top0 n0
    have t1 : Bd.top b ≤ 200 := by
      obtain ⟨d, hd, e⟩ := top_mem (b := b) (by omega)
      rw [e]; exact hB b O d (by omega)
    refine ⟨⟨⟨by show 2 ≤ f.length; omega, by show f.length ≤ 20; omega, by show b.length = f.length - 1; omega, by show (0 : Int) < (p : Int); omega, by show (p : Int) ≤ 47; omega, fun gk hgk => ?_⟩, bf, ⟨p, X.P, rfl⟩, t0, by show Bd.top b ≤ 240; omega, fun gk hgk => ?_, fun x y hx hy => ?_⟩, ?_⟩
    · obtain ⟨d, hd, e1, e2⟩ := mem_b hgk
      have hd : d < b.length := hd
      have g := O.G.gk d (by omega)
      have kB := hB b O d (by omega)
      have k0 := g.k0
      have kt := top_ge hd
      rw [e1, e2]
      refine ⟨by show 0 ≤ Bd.top b - kOf b d; omega, by show Bd.top b - kOf b d ≤ 500; omega, fun j => ?_⟩
      by_cases h1 : j < d
      · have r := g.rng j h1
        have h3 : (p : Int) ^ (kOf b d).toNat ≤ ((2 ^ 9000 : Nat) : Int) := by
          have h4 : p ^ (kOf b d).toNat ≤ (2 ^ 6) ^ 200 := Nat.le_trans (Nat.pow_le_pow_left (by omega) _) (Nat.pow_le_pow_right (by decide) (by omega))
          have h5 : (2 ^ 6) ^ 200 ≤ 2 ^ 9000 := by rw [← Nat.pow_mul]; exact Nat.pow_le_pow_right (by decide) (by decide)
          have h6 := Nat.le_trans h4 h5
          rw [← Int.natCast_pow]
          exact Int.ofNat_le.mpr h6
        have h7 : (at_ (gOf b d) j).natAbs ≤ 2 ^ 9000 := by
          generalize 2 ^ 9000 = M at h3 ⊢
          omega
        exact h7
      · by_cases h2 : j = d
        · rw [h2, g.one]; exact Nat.pow_pos (by decide)
        · rw [at_ge (by rw [g.len]; omega)]; exact Nat.zero_le _
    · obtain ⟨d, hd, e1, e2⟩ := mem_b hgk
      have hd : d < b.length := hd
      rw [e2]
      exact (O.G.gk d (by omega)).k0
    · have hx : x.length = n := hn ▸ hx
      have hy : y.length = n := hn ▸ hy
      obtain ⟨z, h1, h2, _⟩ := prodO_ok X O hx hy
      exact ⟨z, h1, by show z.length = f.length - 1; omega⟩
    · obtain ⟨I, K⟩ := ideal_ok X O
      have hN : (Od.mk f p b).n = n := hn
      show IdO (Od.mk f p b).ideal (Od.mk f p b).n
      rw [hN]
      refine ⟨K.len, fun r hr => ⟨K.wid r hr, fun j => ?_⟩, fun d hd => ?_⟩
      · obtain ⟨d, hd, rfl⟩ := List.getElem_of_mem hr
        have g := K.rng d (by rw [← K.len]; exact hd) j
        have e : ent (Od.mk f p b).ideal d j = at_ ((Od.mk f p b).ideal[d]) j := by
          unfold ent; rw [List.getD_eq_getElem?_getD, List.getElem?_eq_getElem hd]; rfl
        rw [e] at g
        exact Nat.le_trans (show _ ≤ 2 ^ 6 by omega) (Nat.pow_le_pow_right (by decide) (by decide))
      · rcases K.diag d hd with h | h <;> omega
  · obtain ⟨O2, mono, _⟩ := step_ok X O
    have hb := hB _ O2
    generalize Od.greater ⟨f, (p : Int), b⟩ = b2 at *
    obtain ⟨d, hd, hne⟩ : ∃ d, d < n ∧ kOf b d ≠ kOf b2 d := by
      refine Classical.byContradiction fun hno => hk (ks_eq O2.G.len O.G.len fun d hd => ?_)
      exact Classical.byContradiction fun h => hno ⟨d, hd, fun e => h e.symm⟩
    have l1 := SI_lt (n := n) (f := kOf b) (g := kOf b2) mono hd (by have := mono d hd; omega)
    have l2 := SI_top (n := n) (f := kOf b2) (M := 200) hb
    omega
/-! the polynomials of the law -/
theorem fine_of {f : L} {n p : Nat} (p47 : p ≤ 47) (M : Mon f n) (n1 : 1 ≤ n) (n9 : n ≤ 9) (G : Good f p) (D : DetOk (resTab f (deriv f) n n) n) : Fine f (p : Int) := by
  have fl := M.len
  have hn : f.length - 1 = n := by omega
  refine ⟨⟨by show 2 ≤ f.length; omega, by show f.length ≤ 10; omega, G.bn, by show DetOk (resTab f (deriv f) (f.length - 1) (f.length - 1)) (f.length - 1); rw [hn]; exact D⟩, mon_good M n1 n9, fun h1 h2 => ?_⟩
  rcases G.end_ with h | h | h
  · exact absurd h h1
  · exact absurd (.inr h) h2
  · rw [hn] at h
    exact rounds_of p47 n9 G.bn h
theorem fine_low {f : L} {p : Nat} (p47 : p ≤ 47) (G : Good f p) (h : f.length ≤ 7) : Fine f (p : Int) := by
  obtain ⟨n, M, n1, n9⟩ := G.n
  have fl := M.len
  refine fine_of p47 M n1 n9 G (detOk_of (c := 100) fl n9 G.bn ?_ ?_)
  · have : n * (100 + 1) ≤ 6 * (100 + 1) := Nat.mul_le_mul_right _ (by omega)
    omega
  · have : n * (100 + 1) ≤ 6 * (100 + 1) := Nat.mul_le_mul_right _ (by omega)
    have h2 : 2 ^ n ≤ 2 ^ 6 := Nat.pow_le_pow_right (by decide) (by omega)
    exact Nat.le_trans (Nat.mul_le_mul h2 (show 100 + 4 + n * (100 + 1) + 1 ≤ 711 by omega)) (by decide)
def lawPn : List Nat := [2, 3, 5, 7, 43, 47]
theorem lawP_of {q : Int} (h : q ∈ lawP) : ∃ p : Nat, p ∈ lawPn ∧ q = (p : Int) ∧ Prb p ∧ p ≤ 47 := by
  simp only [lawP, List.mem_cons, List.not_mem_nil, or_false] at h
  rcases h with rfl | rfl | rfl | rfl | rfl | rfl
  · exact ⟨2, by decide, rfl, prb2, by decide⟩
  · exact ⟨3, by decide, rfl, prb3, by decide⟩
  · exact ⟨5, by decide, rfl, prb5, by decide⟩
  · exact ⟨7, by decide, rfl, prb7, by decide⟩
  · exact ⟨43, by decide, rfl, prb43, by decide⟩
  · exact ⟨47, by decide, rfl, prb47, by decide⟩
end Bw
set_option Elab.async false
set_option linter.all false
set_option maxRecDepth 100000
set_option maxHeartbeats 4000000
namespace Bw
open PySem L2 Bd
def bnd (n : Nat) : Nat := if n ≤ 7 then 560 else if n = 8 then 280 else 139
def okSq (e : Nat) : Bool := (List.range 5).all fun a => (List.range 9).all fun d => okT (fSq a d e) (3 + e) (bnd (3 + e))
def okFv (e : Nat) : Bool := lawPn.all fun p => okT (fFive e p) (6 + e) (bnd (6 + e))
theorem okSq4 : okSq 4 = true := by decide +kernel
theorem okSq5 : okSq 5 = true := by decide +kernel
theorem okSq6 : okSq 6 = true := by decide +kernel
theorem okFv1 : okFv 1 = true := by decide +kernel
theorem okFv2 : okFv 2 = true := by decide +kernel
theorem bnd_ok {n : Nat} (h7 : 7 ≤ n) (h9 : n ≤ 9) : bnd n ≤ 1000 ∧ 2 ^ n * (bnd n + 1) ≤ 72000 := by
  obtain rfl | rfl | rfl : n = 7 ∨ n = 8 ∨ n = 9 := by omega
  · decide
  · decide
  · decide
theorem mon_five (e : Nat) (p : Int) : Mon (fFive e p) (6 + e) := by
  unfold fFive
  have h := foldl_mon (((List.range (5 + e)).map fun j : Nat => ([0 - (j : Int), 1] : Bd.L)) ++ [[0 - p * p * p * p * p, 1]]) [1] 0 mon_one (fun q hq => by
    rcases List.mem_append.mp hq with h | h
    · obtain ⟨j, _, rfl⟩ := List.mem_map.mp h; exact mon_lin _
    · rw [List.mem_singleton.mp h]; exact mon_lin _)
  have e1 : 0 + (((List.range (5 + e)).map fun j : Nat => ([0 - (j : Int), 1] : Bd.L)) ++ [[0 - p * p * p * p * p, 1]]).length = 6 + e := by simp; omega
  rw [e1] at h; exact h
theorem mon_sq (a d : Int) (e : Nat) : Mon (fSq a d e) (3 + e) := by
  unfold fSq
  refine Mon.mul (m := 3) (k := e) ?_ ?_
  · exact foldl_mon [[a, 1], [a, 1], [d, 1]] [1] 0 mon_one (fun q hq => by
      rcases List.mem_cons.mp hq with rfl | hq
      · exact mon_lin _
      rcases List.mem_cons.mp hq with rfl | hq
      · exact mon_lin _
      rcases List.mem_cons.mp hq with rfl | hq
      · exact mon_lin _
      cases hq)
  · have h := foldl_mon ((List.range e).map fun j : Nat => ([0 - 10 - (j : Int), 1] : Bd.L)) [1] 0 mon_one (fun q hq => by
      obtain ⟨j, _, rfl⟩ := List.mem_map.mp hq; exact mon_lin _)
    have e1 : 0 + ((List.range e).map fun j : Nat => ([0 - 10 - (j : Int), 1] : Bd.L)).length = e := by simp
    rw [e1] at h; exact h
theorem facts : Facts := by
  refine ⟨fun q hq n n1 n6 m => ?_, fun q hq n n1 n4 m b c b0 b1 c0 c1 => ?_, fun q hq e he => ?_, fun q hq a d a0 a1 d0 d1 e he => ?_⟩
  · obtain ⟨p, _, rfl, pb, p47⟩ := lawP_of hq
    have G := good_base pb n1 n6 (Tm_rng m)
    refine fine_low p47 G ?_
    have l := foldl_mon ((List.range n).map fun j : Nat => ([0 - (j : Int) - n * Tm m j, 1] : Bd.L)) [1] 0 mon_one (fun q hq => by
      obtain ⟨j, _, rfl⟩ := List.mem_map.mp hq; exact mon_lin _)
    have := l.len
    have e : ((List.range n).map fun j : Nat => ([0 - (j : Int) - n * Tm m j, 1] : Bd.L)).length = n := by simp
    have e2 : (fBase n (Tm m)).length = 0 + ((List.range n).map fun j : Nat => ([0 - (j : Int) - n * Tm m j, 1] : Bd.L)).length + 1 := this
    omega
  · obtain ⟨p, _, rfl, pb, p47⟩ := lawP_of hq
    have G := good_quad pb n1 n4 m ⟨b0, b1⟩ ⟨c0, c1⟩
    refine fine_low p47 G ?_
    have l := foldl_mon ((List.range n).map fun j : Nat => ([0 - (j : Int) - n * Tm m j, 1] : Bd.L)) [1] 0 mon_one (fun q hq => by
      obtain ⟨j, _, rfl⟩ := List.mem_map.mp hq; exact mon_lin _)
    have e : 0 + ((List.range n).map fun j : Nat => ([0 - (j : Int) - n * Tm m j, 1] : Bd.L)).length = n := by simp
    rw [e] at l
    have := (Mon.mul l (mon_quad b c)).len
    have e2 : (lTimes (fBase n (Tm m)) [c, b, 1]).length = n + 2 + 1 := this
    omega
  · obtain ⟨p, hp, rfl, pb, p47⟩ := lawP_of hq
    have G := good_five pb hp he
    have M := mon_five e (p : Int)
    by_cases e0 : e = 0
    · refine fine_low p47 G ?_
      rw [M.len]; omega
    · obtain ⟨b1, b2⟩ := bnd_ok (n := 6 + e) (by omega) (by omega)
      refine fine_of p47 M (by omega) (by omega) G (detOk_chk (by omega) b1 b2 ?_)
      obtain rfl | rfl : e = 1 ∨ e = 2 := by omega
      · exact List.all_eq_true.mp okFv1 p hp
      · exact List.all_eq_true.mp okFv2 p hp
  · obtain ⟨p, hp, rfl, pb, p47⟩ := lawP_of hq
    have G : Good (fSq a d e) p := good_sq ⟨a0, a1⟩ ⟨d0, d1⟩ he
    have M := mon_sq a d e
    by_cases e0 : e ≤ 3
    · refine fine_low p47 G ?_
      rw [M.len]; omega
    · obtain ⟨b1, b2⟩ := bnd_ok (n := 3 + e) (by omega) (by omega)
      refine fine_of p47 M (by omega) (by omega) G (detOk_chk (by omega) b1 b2 ?_)
      obtain ⟨a', rfl⟩ : ∃ k : Nat, a = (k : Int) := ⟨a.toNat, by omega⟩
      obtain ⟨d', rfl⟩ : ∃ k : Nat, d = (k : Int) := ⟨d.toNat, by omega⟩
      have key : ∀ e, okSq e = true → okT (fSq a' d' e) (3 + e) (bnd (3 + e)) = true := fun e h =>
        List.all_eq_true.mp (List.all_eq_true.mp h a' (List.mem_range.mpr (by omega))) d' (List.mem_range.mpr (by omega))
      obtain rfl | rfl | rfl : e = 4 ∨ e = 5 ∨ e = 6 := by omega
      · exact key 4 okSq4
      · exact key 5 okSq5
      · exact key 6 okSq6
end Bw
set_option Elab.async false
set_option linter.all false
set_option maxRecDepth 100000
set_option maxHeartbeats 4000000
namespace Bw
open PySem L2 Bd
def FunAt (K : PySem.W.Frag) (mg : Str → Option Value) (x : Str) (st : Stmt) : Prop := ∃ f fd, Fun K x x st f fd ∧ mg x = some (.ref f)
def MethAt (K : PySem.W.Frag) (C : Addr) (x q : Str) (st : Stmt) : Prop := ∃ f fd, Fun K x q st f fd ∧ Meth K C x f
theorem fun_at {K : PySem.W.Frag} {h : Heap} {mg : Str → Option Value} (X : K.In h) (G : h.Ns mainGlobals mg) {x : Str} {st : Stmt} {f : Addr} {oc : Value} {od an : Option Addr} {osl : Array (Option Value)} {kV doc pm cdv ct : Value}
    (a : PySem.W.nsIn K mainGlobals x = some (some (.ref f))) (l : K.lookup f = some ⟨oc, od, .func (PySem.W.fnOf x x (defArgs st) (defBody st) (defScope st) .none kV doc pm an cdv ct), osl⟩) (c : PySem.W.codeIn K cdv x = true) (k : PySem.W.keepIn K (.ref f) = true) : FunAt K mg x st :=
  ⟨f, _, fun_mk l c k, PySem.W.mg_of X G a⟩
theorem meth_at {K : PySem.W.Frag} {C : Addr} {x q : Str} {st : Stmt} {f : Addr} {oc : Value} {od an : Option Addr} {osl : Array (Option Value)} {kV doc pm cdv ct : Value}
    (a : PySem.W.findIn K (.ref C) x = some (some (.ref f))) (i : PySem.W.isFn K (.ref f) = true) (l : K.lookup f = some ⟨oc, od, .func (PySem.W.fnOf x q (defArgs st) (defBody st) (defScope st) .none kV doc pm an cdv ct), osl⟩) (c : PySem.W.codeIn K cdv q = true) (k : PySem.W.keepIn K (.ref f) = true) : MethAt K C x q st :=
  ⟨f, _, fun_mk l c k, ⟨a, i, k⟩⟩
structure XcF (K : PySem.W.Frag) (C CB : Addr) : Prop where
  q : PySem.W.excIn K C [Value.type "ValueError", Value.type "Exception", Value.type "BaseException", Value.type "object"] "ValueError.__new__" = true
  kC : PySem.W.keepIn K (.ref C) = true
  exC : PySem.W.subIn K (.ref C) (.type "BaseException") = some true
  tyC : PySem.W.typeIn K (.ref C) = some (.type "type")
  hg : PySem.W.findIn K (.ref C) "__getattribute__" = some (some (.builtin "BaseException.__getattribute__"))
  hk : PySem.W.findIn K (.ref C) "__getattr__" = some none
  hd : PySem.W.hasDictIn K C = true
  ha : PySem.W.findIn K (.ref C) "__class__" = some (some (.builtin "object.__class__"))
  hn : PySem.W.specialIn K (.builtin "object.__class__") "__get__" = some (some (.builtin "getset_descriptor.__get__"))
  ht : PySem.W.takesIn K (.builtin "object.__class__") = some true
  hm : PySem.W.mroIn K C (.type "object") = some true
  eB : PySem.W.subIn K (.ref CB) (.type "BaseException") = some true
  dB : PySem.W.hasDictIn K CB = true
  tB : PySem.W.typeIn K (.ref CB) = some (.type "type")
  sB : PySem.W.subIn K (.ref C) (.ref CB) = some true
theorem XcF.xc {K : PySem.W.Frag} {C CB : Addr} (F : XcF K C CB) {mg : Str → Option Value} {x : Str} (h : mg x = some (.ref C)) : Xc K mg x C := ⟨F.q, h, F.kC, F.exC, F.tyC⟩
structure KiF (K : PySem.W.Frag) (X4 : Four) (r1 r2 r3 r4 C : Addr) (b1 b2 b3 b4 : Bool) : Prop where
  k1 : PySem.W.kitOne K (.ref C) (.ref X4.pr) = some b1
  k2 : PySem.W.kitOne K (.ref C) (.ref X4.po) = some b2
  k3 : PySem.W.kitOne K (.ref C) (.ref X4.pl) = some b3
  k4 : PySem.W.kitOne K (.ref C) (.ref X4.de) = some b4
  o1 : PySem.W.kitOne K (.ref C) (.ref r1) = some false
  o2 : PySem.W.kitOne K (.ref C) (.ref r2) = some false
  o3 : PySem.W.kitOne K (.ref C) (.ref r3) = some false
  o4 : PySem.W.kitOne K (.ref C) (.ref r4) = some false
  kv : PySem.W.kitOne K (.ref C) (.type "ValueError") = some true
theorem kc_of {K : PySem.W.Frag} {X4 : Four} {CB r1 r2 r3 r4 C : Addr} {b1 b2 b3 b4 : Bool} (F : XcF K C CB) (I : KiF K X4 r1 r2 r3 r4 C b1 b2 b3 b4) : Kc K X4 CB r1 r2 r3 r4 C b1 b2 b3 b4 :=
  ⟨⟨F.hg, F.hk, F.exC, F.hd, F.ha, F.hn, F.ht, F.hm⟩, PySem.W.exm_ref F.eB F.dB F.tB F.sB, I.k1, I.k2, I.k3, I.k4, I.o1, I.o2, I.o3, I.o4, I.kv⟩
section
variable {P : Program} {w : World} {K : PySem.W.Frag} {mg : Str → Option Value} {base : Heap} {C : Addr}
theorem df_of {x : Str} {st : Stmt} {k : Nat} {ps : List Str} {sp : Sp} (E : FunAt K mg x st) (h : ∀ f fd, Fun K x x st f fd → FnOk P w K mg base CX0 k f fd ps sp)
    (hb : ∀ (kV doc pm : Value) (an : Option Addr) (cdv ct : Value) (us : List Value), us.length = ps.length → bindArgs (PySem.W.fnOf x x (defArgs st) (defBody st) (defScope st) .none kV doc pm an cdv ct) ⟨us, []⟩ = pure (ps.zip us)) : Df P w K mg base x k ps sp := by
  obtain ⟨f, fd, F, e⟩ := E
  exact ⟨f, fd, h f fd F, e, F.kp, F.binds hb⟩
theorem dfx_of {x : Str} {st : Stmt} {k : Nat} {ps : List Str} {sp : Sp} (E : FunAt K mg x st) (h : ∀ f fd, Fun K x x st f fd → FnOk P w K mg base (L2N.CX P w) k f fd ps sp)
    (hb : ∀ (kV doc pm : Value) (an : Option Addr) (cdv ct : Value) (us : List Value), us.length = ps.length → bindArgs (PySem.W.fnOf x x (defArgs st) (defBody st) (defScope st) .none kV doc pm an cdv ct) ⟨us, []⟩ = pure (ps.zip us)) : DfX P w K mg base x k ps sp := by
  obtain ⟨f, fd, F, e⟩ := E
  exact ⟨f, fd, h f fd F, e, F.kp, F.binds hb⟩
theorem dm_of {x q : Str} {st : Stmt} {k : Nat} {ps : List Str} {sp : Sp} (E : MethAt K C x q st) (h : ∀ f fd, Fun K x q st f fd → FnOk P w K mg base CX0 k f fd ps sp)
    (hb : ∀ (kV doc pm : Value) (an : Option Addr) (cdv ct : Value) (us : List Value), us.length = ps.length → bindArgs (PySem.W.fnOf x q (defArgs st) (defBody st) (defScope st) .none kV doc pm an cdv ct) ⟨us, []⟩ = pure (ps.zip us)) : Dm P w K mg base C x k ps sp := by
  obtain ⟨f, fd, F, e⟩ := E
  exact ⟨f, fd, h f fd F, e, F.binds hb⟩
theorem di_of {q : Str} {st : Stmt} {k : Nat} {ps : List Str} {sp : Sp} (E : MethAt K C "__init__" q st) (mk : PySem.W.makesIn K C = true) (kC : PySem.W.keepIn K (.ref C) = true) (h : ∀ f fd, Fun K "__init__" q st f fd → FnOk P w K mg base CX0 k f fd ps sp)
    (hb : ∀ (kV doc pm : Value) (an : Option Addr) (cdv ct : Value) (us : List Value), us.length = ps.length → bindArgs (PySem.W.fnOf "__init__" q (defArgs st) (defBody st) (defScope st) .none kV doc pm an cdv ct) ⟨us, []⟩ = pure (ps.zip us)) : Di P w K mg base C k ps sp := by
  obtain ⟨f, fd, F, e⟩ := E
  exact ⟨f, fd, h f fd F, ⟨mk, e.at_, e.fn, kC⟩, F.binds hb⟩
theorem law_holds {X4 : Four} (T : Tx mg) (CS : Cs K mg) (OC : Oc K mg C) (mkC : PySem.W.makesIn K C = true) (kC : PySem.W.keepIn K (.ref C) = true) (KD : Kd K mg X4) (X_NoPrime : Xc K mg "NoPrime" X4.pr) (X_NoPolynomial : Xc K mg "NoPolynomial" X4.po) (X_NotPlain : Xc K mg "NotPlain" X4.pl) (X_TooDeep : Xc K mg "TooDeep" X4.de) (FF : Facts)
    (E_power_of : FunAt K mg "power_of" s_power_of)
    (E_size_of_number : FunAt K mg "size_of_number" s_size_of_number)
    (E_inverse : FunAt K mg "inverse" s_inverse)
    (E_trimmed : FunAt K mg "trimmed" s_trimmed)
    (E_number_at : FunAt K mg "number_at" s_number_at)
    (E_multiplied : FunAt K mg "multiplied" s_multiplied)
    (E_divided : FunAt K mg "divided" s_divided)
    (E_derived : FunAt K mg "derived" s_derived)
    (E_product_of : FunAt K mg "product_of" s_product_of)
    (E_size_at : FunAt K mg "size_at" s_size_at)
    (E_lifted : FunAt K mg "lifted" s_lifted)
    (E_over_all : FunAt K mg "over_all" s_over_all)
    (E_greatest_power : FunAt K mg "greatest_power" s_greatest_power)
    (E_cleared : FunAt K mg "cleared" s_cleared)
    (E_triangular : FunAt K mg "triangular" s_triangular)
    (E_coordinates : FunAt K mg "coordinates" s_coordinates)
    (E_clear_column : FunAt K mg "clear_column" s_clear_column)
    (E_kernel : FunAt K mg "kernel" s_kernel)
    (E_m_init : MethAt K C "__init__" "Order.__init__" s_m_init)
    (E_m_row_of : MethAt K C "row_of" "Order.row_of" s_m_row_of)
    (E_m_product : MethAt K C "product" "Order.product" s_m_product)
    (E_m_rest_product : MethAt K C "rest_product" "Order.rest_product" s_m_rest_product)
    (E_m_raised : MethAt K C "raised" "Order.raised" s_m_raised)
    (E_m_units : MethAt K C "units" "Order.units" s_m_units)
    (E_m_basis_of : MethAt K C "basis_of" "Order.basis_of" s_m_basis_of)
    (E_m_by_ideal : MethAt K C "by_ideal" "Order.by_ideal" s_m_by_ideal)
    (E_m_radical : MethAt K C "radical" "Order.radical" s_m_radical)
    (E_m_greater : MethAt K C "greater" "Order.greater" s_m_greater)
    (E_pivot_below : FunAt K mg "pivot_below" s_pivot_below)
    (E_determinant : FunAt K mg "determinant" s_determinant)
    (E_resultant : FunAt K mg "resultant" s_resultant)
    (E_discriminant : FunAt K mg "discriminant" s_discriminant)
    (E_is_whole : FunAt K mg "is_whole" s_is_whole)
    (E_is_prime : FunAt K mg "is_prime" s_is_prime)
    (E_is_polynomial : FunAt K mg "is_polynomial" s_is_polynomial)
    (E_look_at : FunAt K mg "look_at" s_look_at)
    (E_whole_basis : FunAt K mg "whole_basis" s_whole_basis)
    (E_law_cell_at : FunAt K mg "_law_cell_at" s_law_cell_at)
    (E_law_number : FunAt K mg "_law_number" s_law_number)
    (E_law_trimmed : FunAt K mg "_law_trimmed" s_law_trimmed)
    (E_law_times : FunAt K mg "_law_times" s_law_times)
    (E_law_product : FunAt K mg "_law_product" s_law_product)
    (E_law_size : FunAt K mg "_law_size" s_law_size)
    (E_law_due : FunAt K mg "_law_due" s_law_due)
    (E_law_outcome : FunAt K mg "_law_outcome" s_law_outcome)
    (E_law_odd : FunAt K mg "_law_odd" s_law_odd)
    {f : Addr} {fd : FuncData} (F : Fun K "law" "law" s_law f fd) : FnOk P w K mg base CX0 11 f fd ["_law_script"] (sp_law K) := by
  have D_power_of : Df P w K mg base "power_of" 1 ["number", "many"] sp_power_of := df_of E_power_of (fun _ _ F => ok_power_of T F) (fun _ _ _ _ _ _ us hl => match us, hl with | [_, _], _ => rfl)
  have D_size_of_number : Df P w K mg base "size_of_number" 1 ["number", "p"] sp_size_of_number := df_of E_size_of_number (fun _ _ F => ok_size_of_number T F) (fun _ _ _ _ _ _ us hl => match us, hl with | [_, _], _ => rfl)
  have D_inverse : Df P w K mg base "inverse" 1 ["number", "modulus"] sp_inverse := df_of E_inverse (fun _ _ F => ok_inverse T F) (fun _ _ _ _ _ _ us hl => match us, hl with | [_, _], _ => rfl)
  have D_trimmed : Df P w K mg base "trimmed" 1 ["numbers"] sp_trimmed := df_of E_trimmed (fun _ _ F => ok_trimmed T F) (fun _ _ _ _ _ _ us hl => match us, hl with | [_], _ => rfl)
  have D_number_at : Df P w K mg base "number_at" 1 ["f", "k"] sp_number_at := df_of E_number_at (fun _ _ F => ok_number_at T F) (fun _ _ _ _ _ _ us hl => match us, hl with | [_, _], _ => rfl)
  have D_multiplied : Df P w K mg base "multiplied" 2 ["f", "g"] sp_multiplied := df_of E_multiplied (fun _ _ F => ok_multiplied T D_trimmed F) (fun _ _ _ _ _ _ us hl => match us, hl with | [_, _], _ => rfl)
  have D_divided : Df P w K mg base "divided" 2 ["f", "g"] sp_divided := df_of E_divided (fun _ _ F => ok_divided T D_trimmed F) (fun _ _ _ _ _ _ us hl => match us, hl with | [_, _], _ => rfl)
  have D_derived : Df P w K mg base "derived" 2 ["f"] sp_derived := df_of E_derived (fun _ _ F => ok_derived T D_trimmed F) (fun _ _ _ _ _ _ us hl => match us, hl with | [_], _ => rfl)
  have D_product_of : Df P w K mg base "product_of" 3 ["f", "one", "other"] sp_product_of := df_of E_product_of (fun _ _ F => ok_product_of T D_number_at D_divided D_multiplied D_trimmed F) (fun _ _ _ _ _ _ us hl => match us, hl with | [_, _, _], _ => rfl)
  have D_size_at : Df P w K mg base "size_at" 2 ["row", "d", "p", "most"] sp_size_at := df_of E_size_at (fun _ _ F => ok_size_at T D_size_of_number F) (fun _ _ _ _ _ _ us hl => match us, hl with | [_, _, _, _], _ => rfl)
  have D_lifted : Df P w K mg base "lifted" 2 ["row", "d", "a", "p", "big"] sp_lifted := df_of E_lifted (fun _ _ F => ok_lifted T D_inverse D_power_of F) (fun _ _ _ _ _ _ us hl => match us, hl with | [_, _, _, _, _], _ => rfl)
  have D_over_all : Df P w K mg base "over_all" 2 ["basis", "n", "p", "most"] sp_over_all := df_of E_over_all (fun _ _ F => ok_over_all T D_number_at D_power_of F) (fun _ _ _ _ _ _ us hl => match us, hl with | [_, _, _, _], _ => rfl)
  have D_greatest_power : Df P w K mg base "greatest_power" 1 ["basis"] sp_greatest_power := df_of E_greatest_power (fun _ _ F => ok_greatest_power T F) (fun _ _ _ _ _ _ us hl => match us, hl with | [_], _ => rfl)
  have D_cleared : Df P w K mg base "cleared" 2 ["rows", "row", "d", "a", "p", "big"] sp_cleared := df_of E_cleared (fun _ _ F => ok_cleared T D_power_of F) (fun _ _ _ _ _ _ us hl => match us, hl with | [_, _, _, _, _, _], _ => rfl)
  have D_triangular : Df P w K mg base "triangular" 3 ["rows", "n", "p", "most"] sp_triangular := df_of E_triangular (fun _ _ F => ok_triangular T D_cleared D_power_of D_lifted D_size_at F) (fun _ _ _ _ _ _ us hl => match us, hl with | [_, _, _, _], _ => rfl)
  have D_coordinates : Df P w K mg base "coordinates" 2 ["basis", "row", "p", "most"] sp_coordinates := df_of E_coordinates (fun _ _ F => ok_coordinates T D_number_at D_power_of F) (fun _ _ _ _ _ _ us hl => match us, hl with | [_, _, _, _], _ => rfl)
  have D_clear_column : Df P w K mg base "clear_column" 2 ["rows", "marks", "done", "column", "p"] sp_clear_column := df_of E_clear_column (fun _ _ F => ok_clear_column T D_inverse F) (fun _ _ _ _ _ _ us hl => match us, hl with | [_, _, _, _, _], _ => rfl)
  have D_kernel : Df P w K mg base "kernel" 3 ["table", "wide", "p"] sp_kernel := df_of E_kernel (fun _ _ F => ok_kernel T D_clear_column F) (fun _ _ _ _ _ _ us hl => match us, hl with | [_, _, _], _ => rfl)
  have D_m_init : Di P w K mg base C 3 ["self", "f", "p", "basis"] (spInit C) := di_of E_m_init mkC kC (fun _ _ F => ok_m_init T OC D_over_all D_greatest_power F) (fun _ _ _ _ _ _ us hl => match us, hl with | [_, _, _, _], _ => rfl)
  have D_m_row_of : Dm P w K mg base C "row_of" 1 ["self", "numbers"] (sp_m_row_of C) := dm_of E_m_row_of (fun _ _ F => ok_m_row_of T OC F) (fun _ _ _ _ _ _ us hl => match us, hl with | [_, _], _ => rfl)
  have D_m_product : Dm P w K mg base C "product" 4 ["self", "one", "other"] (sp_m_product C) := dm_of E_m_product (fun _ _ F => ok_m_product T OC D_coordinates D_product_of D_m_row_of F) (fun _ _ _ _ _ _ us hl => match us, hl with | [_, _, _], _ => rfl)
  have D_m_rest_product : Dm P w K mg base C "rest_product" 5 ["self", "one", "other"] (sp_m_rest_product C) := dm_of E_m_rest_product (fun _ _ F => ok_m_rest_product T OC D_m_product F) (fun _ _ _ _ _ _ us hl => match us, hl with | [_, _, _], _ => rfl)
  have D_m_raised : Dm P w K mg base C "raised" 6 ["self", "one", "often"] (sp_m_raised C) := dm_of E_m_raised (fun _ _ F => ok_m_raised T OC D_m_rest_product F) (fun _ _ _ _ _ _ us hl => match us, hl with | [_, _, _], _ => rfl)
  have D_m_units : Dm P w K mg base C "units" 1 ["self"] (sp_m_units C) := dm_of E_m_units (fun _ _ F => ok_m_units T OC F) (fun _ _ _ _ _ _ us hl => match us, hl with | [_], _ => rfl)
  have D_m_basis_of : Dm P w K mg base C "basis_of" 2 ["self", "some", "times_p"] (sp_m_basis_of C) := dm_of E_m_basis_of (fun _ _ F => ok_m_basis_of T OC D_inverse F) (fun _ _ _ _ _ _ us hl => match us, hl with | [_, _, _], _ => rfl)
  have D_m_by_ideal : Dm P w K mg base C "by_ideal" 1 ["self", "ideal", "row"] (sp_m_by_ideal C) := dm_of E_m_by_ideal (fun _ _ F => ok_m_by_ideal T OC F) (fun _ _ _ _ _ _ us hl => match us, hl with | [_, _, _], _ => rfl)
  have D_m_radical : Dm P w K mg base C "radical" 7 ["self"] (sp_m_radical C) := dm_of E_m_radical (fun _ _ F => ok_m_radical T OC D_m_basis_of D_m_units D_kernel D_m_raised F) (fun _ _ _ _ _ _ us hl => match us, hl with | [_], _ => rfl)
  have D_m_greater : Dm P w K mg base C "greater" 8 ["self"] (sp_m_greater C) := dm_of E_m_greater (fun _ _ F => ok_m_greater T OC D_triangular D_m_row_of D_kernel D_m_units D_m_by_ideal D_m_product D_m_radical F) (fun _ _ _ _ _ _ us hl => match us, hl with | [_], _ => rfl)
  have D_pivot_below : Df P w K mg base "pivot_below" 1 ["rows", "k"] sp_pivot_below := df_of E_pivot_below (fun _ _ F => ok_pivot_below T F) (fun _ _ _ _ _ _ us hl => match us, hl with | [_, _], _ => rfl)
  have D_determinant : Df P w K mg base "determinant" 2 ["table"] sp_determinant := df_of E_determinant (fun _ _ F => ok_determinant T D_pivot_below F) (fun _ _ _ _ _ _ us hl => match us, hl with | [_], _ => rfl)
  have D_resultant : Df P w K mg base "resultant" 3 ["f", "g"] sp_resultant := df_of E_resultant (fun _ _ F => ok_resultant T D_determinant D_divided D_number_at F) (fun _ _ _ _ _ _ us hl => match us, hl with | [_, _], _ => rfl)
  have D_discriminant : Df P w K mg base "discriminant" 4 ["f"] sp_discriminant := df_of E_discriminant (fun _ _ F => ok_discriminant T D_resultant D_derived F) (fun _ _ _ _ _ _ us hl => match us, hl with | [_], _ => rfl)
  have D_is_whole : Df P w K mg base "is_whole" 1 ["thing"] sp_is_whole := df_of E_is_whole (fun _ _ F => ok_is_whole T F) (fun _ _ _ _ _ _ us hl => match us, hl with | [_], _ => rfl)
  have D_is_prime : Df P w K mg base "is_prime" 2 ["thing"] sp_is_prime := df_of E_is_prime (fun _ _ F => ok_is_prime T CS D_is_whole F) (fun _ _ _ _ _ _ us hl => match us, hl with | [_], _ => rfl)
  have D_is_polynomial : Df P w K mg base "is_polynomial" 2 ["thing"] sp_is_polynomial := df_of E_is_polynomial (fun _ _ F => ok_is_polynomial T D_is_whole F) (fun _ _ _ _ _ _ us hl => match us, hl with | [_], _ => rfl)
  have D_look_at : DfX P w K mg base "look_at" 5 ["f", "p", "most_degree", "most_size"] (sp_look_at X4) := dfx_of E_look_at (fun _ _ F => ok_look_at T CS X_NoPrime X_NoPolynomial X_NotPlain X_TooDeep D_size_of_number D_discriminant D_is_polynomial D_is_prime F) (fun _ _ _ _ _ _ us hl => match us, hl with | [_, _, _, _], _ => rfl)
  have D_whole_basis : DfX P w K mg base "whole_basis" 9 ["f", "p"] (sp_whole_basis X4) := dfx_of E_whole_basis (fun _ _ F => ok_whole_basis T CS OC D_m_greater D_m_init D_look_at F) (fun _ _ _ _ _ _ us hl => match us, hl with | [_, _], _ => rfl)
  have D_law_cell_at : Df P w K mg base "_law_cell_at" 1 ["_law_script", "_law_k"] (sp_law_cell_at K) := df_of E_law_cell_at (fun _ _ F => ok_law_cell_at T F) (fun _ _ _ _ _ _ us hl => match us, hl with | [_, _], _ => rfl)
  have D_law_number : Df P w K mg base "_law_number" 2 ["_law_script", "_law_k"] (sp_law_number K) := df_of E_law_number (fun _ _ F => ok_law_number T D_law_cell_at F) (fun _ _ _ _ _ _ us hl => match us, hl with | [_, _], _ => rfl)
  have D_law_trimmed : Df P w K mg base "_law_trimmed" 1 ["_law_numbers"] sp_law_trimmed := df_of E_law_trimmed (fun _ _ F => ok_law_trimmed T F) (fun _ _ _ _ _ _ us hl => match us, hl with | [_], _ => rfl)
  have D_law_times : Df P w K mg base "_law_times" 2 ["_law_f", "_law_g"] sp_law_times := df_of E_law_times (fun _ _ F => ok_law_times T D_law_trimmed F) (fun _ _ _ _ _ _ us hl => match us, hl with | [_, _], _ => rfl)
  have D_law_product : Df P w K mg base "_law_product" 3 ["_law_some"] sp_law_product := df_of E_law_product (fun _ _ F => ok_law_product T D_law_times F) (fun _ _ _ _ _ _ us hl => match us, hl with | [_], _ => rfl)
  have D_law_size : Df P w K mg base "_law_size" 1 ["_law_number_here", "_law_p"] sp_law_size := df_of E_law_size (fun _ _ F => ok_law_size T F) (fun _ _ _ _ _ _ us hl => match us, hl with | [_, _], _ => rfl)
  have D_law_due : Df P w K mg base "_law_due" 5 ["_law_f", "_law_p"] sp_law_due := df_of E_law_due (fun _ _ F => ok_law_due T D_law_size D_discriminant F) (fun _ _ _ _ _ _ us hl => match us, hl with | [_, _], _ => rfl)
  have D_law_outcome : Df P w K mg base "_law_outcome" 10 ["_law_f", "_law_p"] sp_law_outcome := df_of E_law_outcome (fun _ _ F => ok_law_outcome T KD D_whole_basis F) (fun _ _ _ _ _ _ us hl => match us, hl with | [_, _], _ => rfl)
  have D_law_odd : Df P w K mg base "_law_odd" 1 ["_law_cell", "_law_f"] sp_law_odd := df_of E_law_odd (fun _ _ F => ok_law_odd T F) (fun _ _ _ _ _ _ us hl => match us, hl with | [_, _], _ => rfl)
  exact ok_law T FF D_law_outcome D_law_odd D_law_due D_law_times D_law_product D_law_number F
end
theorem all_mk {P : Program} {w : World} {K : PySem.W.Frag} {h : Heap} {mg : Str → Option Value} {fa C pp CB xpr xpo xpl xde r1 r2 r3 r4 : Addr} {u1 u2 u3 u4 : Value} {ppd : Option Addr} {its : Array Value} {nn : Nat} {psl : Array (Option Value)} (X : K.In h) (G : h.Ns mainGlobals mg) (hfa : mg "law" = some (.ref fa))
    (z_range : PySem.W.nsIn K mainGlobals "range" = some none)
    (z_len : PySem.W.nsIn K mainGlobals "len" = some none)
    (z_list : PySem.W.nsIn K mainGlobals "list" = some none)
    (z_tuple : PySem.W.nsIn K mainGlobals "tuple" = some none)
    (z_int : PySem.W.nsIn K mainGlobals "int" = some none)
    (z_bool : PySem.W.nsIn K mainGlobals "bool" = some none)
    (z_abs : PySem.W.nsIn K mainGlobals "abs" = some none)
    (z_max : PySem.W.nsIn K mainGlobals "max" = some none)
    (z_min : PySem.W.nsIn K mainGlobals "min" = some none)
    (z_all : PySem.W.nsIn K mainGlobals "all" = some none)
    (z_any : PySem.W.nsIn K mainGlobals "any" = some none)
    (z_isinstance : PySem.W.nsIn K mainGlobals "isinstance" = some none)
    (z_zip : PySem.W.nsIn K mainGlobals "zip" = some none)
    (z_reversed : PySem.W.nsIn K mainGlobals "reversed" = some none)
    (z_ve : PySem.W.nsIn K mainGlobals "ValueError" = some none)
    (c_GREATEST_DEGREE : PySem.W.nsIn K mainGlobals "GREATEST_DEGREE" = some (some u1)) (v_GREATEST_DEGREE : RelV (.int 12) u1)
    (c_GREATEST_SIZE : PySem.W.nsIn K mainGlobals "GREATEST_SIZE" = some (some u2)) (v_GREATEST_SIZE : RelV (.int 40) u2)
    (c_MOST_DEGREE : PySem.W.nsIn K mainGlobals "MOST_DEGREE" = some (some u3)) (v_MOST_DEGREE : RelV (.int 6) u3)
    (c_MOST_SIZE : PySem.W.nsIn K mainGlobals "MOST_SIZE" = some (some u4)) (v_MOST_SIZE : RelV (.int 24) u4)
    (c_PRIMES : PySem.W.nsIn K mainGlobals "PRIMES" = some (some (.ref pp))) (l_PRIMES : K.lookup pp = some ⟨.type "tuple", ppd, .seq its nn, psl⟩) (s_PRIMES : its.size ≤ sizeLine) (v_PRIMES : Vals (prs.map V.int) its.toList)
    (aC : PySem.W.nsIn K mainGlobals "Order" = some (some (.ref C))) (pg : PySem.W.plainGet K C Str.empty = true) (hd : PySem.W.hasDictIn K C = true) (po : PySem.W.plainOver K C = true) (sa : PySem.W.findIn K (.ref C) "__setattr__" = some (some (.builtin "object.__setattr__"))) (mkC : PySem.W.makesIn K C = true) (kC : PySem.W.keepIn K (.ref C) = true)
    (n1 : PySem.W.findIn K (.ref C) "letter_of" = some none)
    (n2 : PySem.W.findIn K (.ref C) "prime" = some none)
    (n3 : PySem.W.findIn K (.ref C) "told_basis" = some none)
    (n4 : PySem.W.findIn K (.ref C) "most" = some none)
    (n5 : PySem.W.findIn K (.ref C) "rows" = some none)
    (a_BranchError : PySem.W.nsIn K mainGlobals "BranchError" = some (some (.ref CB)))
    (a_NoPrime : PySem.W.nsIn K mainGlobals "NoPrime" = some (some (.ref xpr)))
    (a_NoPolynomial : PySem.W.nsIn K mainGlobals "NoPolynomial" = some (some (.ref xpo)))
    (a_NotPlain : PySem.W.nsIn K mainGlobals "NotPlain" = some (some (.ref xpl)))
    (a_TooDeep : PySem.W.nsIn K mainGlobals "TooDeep" = some (some (.ref xde)))
    (a_NoRow : PySem.W.nsIn K mainGlobals "NoRow" = some (some (.ref r1)))
    (a_NoSize : PySem.W.nsIn K mainGlobals "NoSize" = some (some (.ref r2)))
    (a_NoText : PySem.W.nsIn K mainGlobals "NoText" = some (some (.ref r3)))
    (a_NoTower : PySem.W.nsIn K mainGlobals "NoTower" = some (some (.ref r4)))
    (F_pr : XcF K xpr CB) (I_pr : KiF K ⟨xpr, xpo, xpl, xde⟩ r1 r2 r3 r4 xpr true false false false)
    (F_po : XcF K xpo CB) (I_po : KiF K ⟨xpr, xpo, xpl, xde⟩ r1 r2 r3 r4 xpo false true false false)
    (F_pl : XcF K xpl CB) (I_pl : KiF K ⟨xpr, xpo, xpl, xde⟩ r1 r2 r3 r4 xpl false false true false)
    (F_de : XcF K xde CB) (I_de : KiF K ⟨xpr, xpo, xpl, xde⟩ r1 r2 r3 r4 xde false false false true)
    (E_power_of : FunAt K mg "power_of" s_power_of)
    (E_size_of_number : FunAt K mg "size_of_number" s_size_of_number)
    (E_inverse : FunAt K mg "inverse" s_inverse)
    (E_trimmed : FunAt K mg "trimmed" s_trimmed)
    (E_number_at : FunAt K mg "number_at" s_number_at)
    (E_multiplied : FunAt K mg "multiplied" s_multiplied)
    (E_divided : FunAt K mg "divided" s_divided)
    (E_derived : FunAt K mg "derived" s_derived)
    (E_product_of : FunAt K mg "product_of" s_product_of)
    (E_size_at : FunAt K mg "size_at" s_size_at)
    (E_lifted : FunAt K mg "lifted" s_lifted)
    (E_over_all : FunAt K mg "over_all" s_over_all)
    (E_greatest_power : FunAt K mg "greatest_power" s_greatest_power)
    (E_cleared : FunAt K mg "cleared" s_cleared)
    (E_triangular : FunAt K mg "triangular" s_triangular)
    (E_coordinates : FunAt K mg "coordinates" s_coordinates)
    (E_clear_column : FunAt K mg "clear_column" s_clear_column)
    (E_kernel : FunAt K mg "kernel" s_kernel)
    (E_m_init : MethAt K C "__init__" "Order.__init__" s_m_init)
    (E_m_row_of : MethAt K C "row_of" "Order.row_of" s_m_row_of)
    (E_m_product : MethAt K C "product" "Order.product" s_m_product)
    (E_m_rest_product : MethAt K C "rest_product" "Order.rest_product" s_m_rest_product)
    (E_m_raised : MethAt K C "raised" "Order.raised" s_m_raised)
    (E_m_units : MethAt K C "units" "Order.units" s_m_units)
    (E_m_basis_of : MethAt K C "basis_of" "Order.basis_of" s_m_basis_of)
    (E_m_by_ideal : MethAt K C "by_ideal" "Order.by_ideal" s_m_by_ideal)
    (E_m_radical : MethAt K C "radical" "Order.radical" s_m_radical)
    (E_m_greater : MethAt K C "greater" "Order.greater" s_m_greater)
    (E_pivot_below : FunAt K mg "pivot_below" s_pivot_below)
    (E_determinant : FunAt K mg "determinant" s_determinant)
    (E_resultant : FunAt K mg "resultant" s_resultant)
    (E_discriminant : FunAt K mg "discriminant" s_discriminant)
    (E_is_whole : FunAt K mg "is_whole" s_is_whole)
    (E_is_prime : FunAt K mg "is_prime" s_is_prime)
    (E_is_polynomial : FunAt K mg "is_polynomial" s_is_polynomial)
    (E_look_at : FunAt K mg "look_at" s_look_at)
    (E_whole_basis : FunAt K mg "whole_basis" s_whole_basis)
    (E_law_cell_at : FunAt K mg "_law_cell_at" s_law_cell_at)
    (E_law_number : FunAt K mg "_law_number" s_law_number)
    (E_law_trimmed : FunAt K mg "_law_trimmed" s_law_trimmed)
    (E_law_times : FunAt K mg "_law_times" s_law_times)
    (E_law_product : FunAt K mg "_law_product" s_law_product)
    (E_law_size : FunAt K mg "_law_size" s_law_size)
    (E_law_due : FunAt K mg "_law_due" s_law_due)
    (E_law_outcome : FunAt K mg "_law_outcome" s_law_outcome)
    (E_law_odd : FunAt K mg "_law_odd" s_law_odd)
    (E_law : FunAt K mg "law" s_law) :
    ∃ fd : FuncData, (∀ (s : Shared) (v : Value), BindsTo s fd ⟨[v], []⟩ [("_law_script", v)]) ∧ ∀ base : Heap, K.In base → base.Ns mainGlobals mg → FnOk P w K mg base CX0 11 fa fd ["_law_script"] (sp_law K) := by
  have T : Tx mg := ⟨PySem.W.mg_none_of X G z_range, PySem.W.mg_none_of X G z_len, PySem.W.mg_none_of X G z_list, PySem.W.mg_none_of X G z_tuple, PySem.W.mg_none_of X G z_int, PySem.W.mg_none_of X G z_bool, PySem.W.mg_none_of X G z_abs, PySem.W.mg_none_of X G z_max, PySem.W.mg_none_of X G z_min, PySem.W.mg_none_of X G z_all, PySem.W.mg_none_of X G z_any, PySem.W.mg_none_of X G z_isinstance, PySem.W.mg_none_of X G z_zip, PySem.W.mg_none_of X G z_reversed⟩
  have CS : Cs K mg := ⟨pp, u1, u2, u3, u4, ⟨rfl, PySem.W.mg_of X G c_PRIMES⟩, ⟨v_GREATEST_DEGREE, PySem.W.mg_of X G c_GREATEST_DEGREE⟩, ⟨v_GREATEST_SIZE, PySem.W.mg_of X G c_GREATEST_SIZE⟩, ⟨v_MOST_DEGREE, PySem.W.mg_of X G c_MOST_DEGREE⟩, ⟨v_MOST_SIZE, PySem.W.mg_of X G c_MOST_SIZE⟩, fun H => .inr ⟨_, its, nn, l_PRIMES, rfl, rfl, s_PRIMES, v_PRIMES⟩⟩
  have OC : Oc K mg C := ⟨⟨pg, hd, po, sa⟩, PySem.W.mg_of X G aC, n1, n2, n3, n4, n5⟩
  have KD : Kd K mg ⟨xpr, xpo, xpl, xde⟩ := ⟨CB, r1, r2, r3, r4, PySem.W.mg_of X G a_BranchError, PySem.W.mg_of X G a_NoPrime, PySem.W.mg_of X G a_NoPolynomial, PySem.W.mg_of X G a_NotPlain, PySem.W.mg_of X G a_TooDeep, PySem.W.mg_of X G a_NoRow, PySem.W.mg_of X G a_NoSize, PySem.W.mg_of X G a_NoText, PySem.W.mg_of X G a_NoTower, PySem.W.mg_none_of X G z_ve, kc_of F_pr I_pr, kc_of F_po I_po, kc_of F_pl I_pl, kc_of F_de I_de⟩
  obtain ⟨f, fd, F, e⟩ := E_law
  have e2 := hfa.symm.trans e
  cases e2
  obtain ⟨oc, od, kV, doc, pm, an, cdv, ct, osl, rfl, lk, hcd⟩ := F.ex
  refine ⟨PySem.W.fnOf "law" "law" (defArgs s_law) (defBody s_law) (defScope s_law) .none kV doc pm an cdv ct, fun s v => .of_eq rfl, fun base _ _ => ?_⟩
  exact law_holds (X4 := ⟨xpr, xpo, xpl, xde⟩) T CS OC mkC kC KD (F_pr.xc (PySem.W.mg_of X G a_NoPrime)) (F_po.xc (PySem.W.mg_of X G a_NoPolynomial)) (F_pl.xc (PySem.W.mg_of X G a_NotPlain)) (F_de.xc (PySem.W.mg_of X G a_TooDeep)) facts E_power_of E_size_of_number E_inverse E_trimmed E_number_at E_multiplied E_divided E_derived E_product_of E_size_at E_lifted E_over_all E_greatest_power E_cleared E_triangular E_coordinates E_clear_column E_kernel E_m_init E_m_row_of E_m_product E_m_rest_product E_m_raised E_m_units E_m_basis_of E_m_by_ideal E_m_radical E_m_greater E_pivot_below E_determinant E_resultant E_discriminant E_is_whole E_is_prime E_is_polynomial E_look_at E_whole_basis E_law_cell_at E_law_number E_law_trimmed E_law_times E_law_product E_law_size E_law_due E_law_outcome E_law_odd F
theorem walk {l : PySem.W.OpenLaw} {q : Program} {loose : List Str} {XP : (Str → Option Value) → Heap → Prop} {YP : World → Heap → Prop} {d : DefRec} {K : Params → PySem.W.Frag} (hn : l.most = some 63) (hdf : d.params.defaults = [])
    (hY : ∀ (w : World) (h : Heap), YP w h → (K w.params).In h)
    (F : ∀ (w : World) (mg : Str → Option Value) (fa : Addr) (h : Heap), (K w.params).In h → h.Ns mainGlobals mg → mg d.name = some (.ref fa) →
      ∃ fd : FuncData, (∀ (s : Shared) (u : Value), BindsTo s fd ⟨[u], []⟩ [("_law_script", u)]) ∧ ∀ base : Heap, (K w.params).In base → base.Ns mainGlobals mg → FnOk l.prog w (K w.params) mg base CX0 11 fa fd ["_law_script"] (sp_law (K w.params))) :
    PySem.W.WalkO q loose XP YP l.row.toRowW d [] (fun f vs => PySem.call f vs) :=
  L2.walk_of (n := 63) (k := 11) (x := "_law_script") (CX := fun _ => CX0) (sp := fun w => sp_law (K w.params)) hn (by decide) hdf ⟨rfl, by decide, by decide⟩ hY F (fun _ H a ns hl _ hS => ⟨H, ⟨ns⟩, .ref a, rfl, fun _ _ z => z, ⟨a, rfl, hS⟩, fun _ _ _ => rfl⟩) fun _ _ _ _ _ z => z
end Bw
set_option Elab.async false
open PySem PySem.W PyProof.Rows in
set_option maxRecDepth 100000 in
set_option maxHeartbeats 0 in
theorem PySem.Challenge.cw_branchdepth_k63_bases_refused_holds : PySem.Challenge.rw_branchdepth_k63_bases_refused.Holds := by
  w_on; o_law; k_head; (case hw => w_witness2)
  k_fill
  refine Bw.walk (l := PySem.Challenge.rw_branchdepth_k63_bases_refused) rfl rfl (fun w h Y => PySem.W.kIn_of Y) ?F
  case F =>
    intro w mg fa h KX G hmg
    refine' Bw.all_mk KX G hmg ?z_range ?z_len ?z_list ?z_tuple ?z_int ?z_bool ?z_abs ?z_max ?z_min ?z_all ?z_any ?z_isinstance ?z_zip ?z_reversed ?z_ve ?c_GREATEST_DEGREE ?v_GREATEST_DEGREE ?c_GREATEST_SIZE ?v_GREATEST_SIZE ?c_MOST_DEGREE ?v_MOST_DEGREE ?c_MOST_SIZE ?v_MOST_SIZE ?c_PRIMES ?l_PRIMES ?s_PRIMES ?v_PRIMES ?aC ?pg ?hd ?po ?sa ?mkC ?kC ?n1 ?n2 ?n3 ?n4 ?n5 ?a_BranchError ?a_NoPrime ?a_NoPolynomial ?a_NotPlain ?a_TooDeep ?a_NoRow ?a_NoSize ?a_NoText ?a_NoTower ?F_pr ?I_pr ?F_po ?I_po ?F_pl ?I_pl ?F_de ?I_de ?E_power_of ?E_size_of_number ?E_inverse ?E_trimmed ?E_number_at ?E_multiplied ?E_divided ?E_derived ?E_product_of ?E_size_at ?E_lifted ?E_over_all ?E_greatest_power ?E_cleared ?E_triangular ?E_coordinates ?E_clear_column ?E_kernel ?E_m_init ?E_m_row_of ?E_m_product ?E_m_rest_product ?E_m_raised ?E_m_units ?E_m_basis_of ?E_m_by_ideal ?E_m_radical ?E_m_greater ?E_pivot_below ?E_determinant ?E_resultant ?E_discriminant ?E_is_whole ?E_is_prime ?E_is_polynomial ?E_look_at ?E_whole_basis ?E_law_cell_at ?E_law_number ?E_law_trimmed ?E_law_times ?E_law_product ?E_law_size ?E_law_due ?E_law_outcome ?E_law_odd ?E_law
    (case z_range => k_is)
    (case z_len => k_is)
    (case z_list => k_is)
    (case z_tuple => k_is)
    (case z_int => k_is)
    (case z_bool => k_is)
    (case z_abs => k_is)
    (case z_max => k_is)
    (case z_min => k_is)
    (case z_all => k_is)
    (case z_any => k_is)
    (case z_isinstance => k_is)
    (case z_zip => k_is)
    (case z_reversed => k_is)
    (case z_ve => k_is)
    (case c_GREATEST_DEGREE => k_is)
    (case v_GREATEST_DEGREE => exact ⟨_, rfl⟩)
    (case c_GREATEST_SIZE => k_is)
    (case v_GREATEST_SIZE => exact ⟨_, rfl⟩)
    (case c_MOST_DEGREE => k_is)
    (case v_MOST_DEGREE => exact ⟨_, rfl⟩)
    (case c_MOST_SIZE => k_is)
    (case v_MOST_SIZE => exact ⟨_, rfl⟩)
    (case c_PRIMES => k_is)
    (case l_PRIMES => k_is)
    (case s_PRIMES => exact (by decide : 15 ≤ sizeLine))
    (case v_PRIMES => exact .cons ⟨_, rfl⟩ (.cons ⟨_, rfl⟩ (.cons ⟨_, rfl⟩ (.cons ⟨_, rfl⟩ (.cons ⟨_, rfl⟩ (.cons ⟨_, rfl⟩ (.cons ⟨_, rfl⟩ (.cons ⟨_, rfl⟩ (.cons ⟨_, rfl⟩ (.cons ⟨_, rfl⟩ (.cons ⟨_, rfl⟩ (.cons ⟨_, rfl⟩ (.cons ⟨_, rfl⟩ (.cons ⟨_, rfl⟩ (.cons ⟨_, rfl⟩ (.nil))))))))))))))))
    (case aC => k_is)
    (case pg => k_is)
    (case hd => k_is)
    (case po => k_is)
    (case sa => k_is)
    (case mkC => k_is)
    (case kC => k_is)
    (case n1 => k_is)
    (case n2 => k_is)
    (case n3 => k_is)
    (case n4 => k_is)
    (case n5 => k_is)
    (case a_BranchError => k_is)
    (case a_NoPrime => k_is)
    (case a_NoPolynomial => k_is)
    (case a_NotPlain => k_is)
    (case a_TooDeep => k_is)
    (case a_NoRow => k_is)
    (case a_NoSize => k_is)
    (case a_NoText => k_is)
    (case a_NoTower => k_is)
    (case F_pr => (refine' ⟨?q_F_pr, ?y1_F_pr, ?y2_F_pr, ?y3_F_pr, ?y4_F_pr, ?y5_F_pr, ?y6_F_pr, ?y7_F_pr, ?y8_F_pr, ?y9_F_pr, ?y10_F_pr, ?y11_F_pr, ?y12_F_pr, ?y13_F_pr, ?y14_F_pr⟩; (case q_F_pr => k_exc); (case y1_F_pr => k_is); (case y2_F_pr => k_is); (case y3_F_pr => k_is); (case y4_F_pr => k_is); (case y5_F_pr => k_is); (case y6_F_pr => k_is); (case y7_F_pr => k_is); (case y8_F_pr => k_is); (case y9_F_pr => k_is); (case y10_F_pr => k_is); (case y11_F_pr => k_is); (case y12_F_pr => k_is); (case y13_F_pr => k_is); (case y14_F_pr => k_is)))
    (case I_pr => (refine' ⟨?j1_I_pr, ?j2_I_pr, ?j3_I_pr, ?j4_I_pr, ?j5_I_pr, ?j6_I_pr, ?j7_I_pr, ?j8_I_pr, ?j9_I_pr⟩; (case j1_I_pr => kit_is); (case j2_I_pr => kit_is); (case j3_I_pr => kit_is); (case j4_I_pr => kit_is); (case j5_I_pr => kit_is); (case j6_I_pr => kit_is); (case j7_I_pr => kit_is); (case j8_I_pr => kit_is); (case j9_I_pr => kit_is)))
    (case F_po => (refine' ⟨?q_F_po, ?y1_F_po, ?y2_F_po, ?y3_F_po, ?y4_F_po, ?y5_F_po, ?y6_F_po, ?y7_F_po, ?y8_F_po, ?y9_F_po, ?y10_F_po, ?y11_F_po, ?y12_F_po, ?y13_F_po, ?y14_F_po⟩; (case q_F_po => k_exc); (case y1_F_po => k_is); (case y2_F_po => k_is); (case y3_F_po => k_is); (case y4_F_po => k_is); (case y5_F_po => k_is); (case y6_F_po => k_is); (case y7_F_po => k_is); (case y8_F_po => k_is); (case y9_F_po => k_is); (case y10_F_po => k_is); (case y11_F_po => k_is); (case y12_F_po => k_is); (case y13_F_po => k_is); (case y14_F_po => k_is)))
    (case I_po => (refine' ⟨?j1_I_po, ?j2_I_po, ?j3_I_po, ?j4_I_po, ?j5_I_po, ?j6_I_po, ?j7_I_po, ?j8_I_po, ?j9_I_po⟩; (case j1_I_po => kit_is); (case j2_I_po => kit_is); (case j3_I_po => kit_is); (case j4_I_po => kit_is); (case j5_I_po => kit_is); (case j6_I_po => kit_is); (case j7_I_po => kit_is); (case j8_I_po => kit_is); (case j9_I_po => kit_is)))
    (case F_pl => (refine' ⟨?q_F_pl, ?y1_F_pl, ?y2_F_pl, ?y3_F_pl, ?y4_F_pl, ?y5_F_pl, ?y6_F_pl, ?y7_F_pl, ?y8_F_pl, ?y9_F_pl, ?y10_F_pl, ?y11_F_pl, ?y12_F_pl, ?y13_F_pl, ?y14_F_pl⟩; (case q_F_pl => k_exc); (case y1_F_pl => k_is); (case y2_F_pl => k_is); (case y3_F_pl => k_is); (case y4_F_pl => k_is); (case y5_F_pl => k_is); (case y6_F_pl => k_is); (case y7_F_pl => k_is); (case y8_F_pl => k_is); (case y9_F_pl => k_is); (case y10_F_pl => k_is); (case y11_F_pl => k_is); (case y12_F_pl => k_is); (case y13_F_pl => k_is); (case y14_F_pl => k_is)))
    (case I_pl => (refine' ⟨?j1_I_pl, ?j2_I_pl, ?j3_I_pl, ?j4_I_pl, ?j5_I_pl, ?j6_I_pl, ?j7_I_pl, ?j8_I_pl, ?j9_I_pl⟩; (case j1_I_pl => kit_is); (case j2_I_pl => kit_is); (case j3_I_pl => kit_is); (case j4_I_pl => kit_is); (case j5_I_pl => kit_is); (case j6_I_pl => kit_is); (case j7_I_pl => kit_is); (case j8_I_pl => kit_is); (case j9_I_pl => kit_is)))
    (case F_de => (refine' ⟨?q_F_de, ?y1_F_de, ?y2_F_de, ?y3_F_de, ?y4_F_de, ?y5_F_de, ?y6_F_de, ?y7_F_de, ?y8_F_de, ?y9_F_de, ?y10_F_de, ?y11_F_de, ?y12_F_de, ?y13_F_de, ?y14_F_de⟩; (case q_F_de => k_exc); (case y1_F_de => k_is); (case y2_F_de => k_is); (case y3_F_de => k_is); (case y4_F_de => k_is); (case y5_F_de => k_is); (case y6_F_de => k_is); (case y7_F_de => k_is); (case y8_F_de => k_is); (case y9_F_de => k_is); (case y10_F_de => k_is); (case y11_F_de => k_is); (case y12_F_de => k_is); (case y13_F_de => k_is); (case y14_F_de => k_is)))
    (case I_de => (refine' ⟨?j1_I_de, ?j2_I_de, ?j3_I_de, ?j4_I_de, ?j5_I_de, ?j6_I_de, ?j7_I_de, ?j8_I_de, ?j9_I_de⟩; (case j1_I_de => kit_is); (case j2_I_de => kit_is); (case j3_I_de => kit_is); (case j4_I_de => kit_is); (case j5_I_de => kit_is); (case j6_I_de => kit_is); (case j7_I_de => kit_is); (case j8_I_de => kit_is); (case j9_I_de => kit_is)))
    (case E_power_of => (refine' Bw.fun_at KX G ?a_E_power_of ?l_E_power_of ?c_E_power_of ?k_E_power_of; (case a_E_power_of => k_is); (case l_E_power_of => k_is); (case c_E_power_of => k_is); (case k_E_power_of => k_is)))
    (case E_size_of_number => (refine' Bw.fun_at KX G ?a_E_size_of_number ?l_E_size_of_number ?c_E_size_of_number ?k_E_size_of_number; (case a_E_size_of_number => k_is); (case l_E_size_of_number => k_is); (case c_E_size_of_number => k_is); (case k_E_size_of_number => k_is)))
    (case E_inverse => (refine' Bw.fun_at KX G ?a_E_inverse ?l_E_inverse ?c_E_inverse ?k_E_inverse; (case a_E_inverse => k_is); (case l_E_inverse => k_is); (case c_E_inverse => k_is); (case k_E_inverse => k_is)))
    (case E_trimmed => (refine' Bw.fun_at KX G ?a_E_trimmed ?l_E_trimmed ?c_E_trimmed ?k_E_trimmed; (case a_E_trimmed => k_is); (case l_E_trimmed => k_is); (case c_E_trimmed => k_is); (case k_E_trimmed => k_is)))
    (case E_number_at => (refine' Bw.fun_at KX G ?a_E_number_at ?l_E_number_at ?c_E_number_at ?k_E_number_at; (case a_E_number_at => k_is); (case l_E_number_at => k_is); (case c_E_number_at => k_is); (case k_E_number_at => k_is)))
    (case E_multiplied => (refine' Bw.fun_at KX G ?a_E_multiplied ?l_E_multiplied ?c_E_multiplied ?k_E_multiplied; (case a_E_multiplied => k_is); (case l_E_multiplied => k_is); (case c_E_multiplied => k_is); (case k_E_multiplied => k_is)))
    (case E_divided => (refine' Bw.fun_at KX G ?a_E_divided ?l_E_divided ?c_E_divided ?k_E_divided; (case a_E_divided => k_is); (case l_E_divided => k_is); (case c_E_divided => k_is); (case k_E_divided => k_is)))
    (case E_derived => (refine' Bw.fun_at KX G ?a_E_derived ?l_E_derived ?c_E_derived ?k_E_derived; (case a_E_derived => k_is); (case l_E_derived => k_is); (case c_E_derived => k_is); (case k_E_derived => k_is)))
    (case E_product_of => (refine' Bw.fun_at KX G ?a_E_product_of ?l_E_product_of ?c_E_product_of ?k_E_product_of; (case a_E_product_of => k_is); (case l_E_product_of => k_is); (case c_E_product_of => k_is); (case k_E_product_of => k_is)))
    (case E_size_at => (refine' Bw.fun_at KX G ?a_E_size_at ?l_E_size_at ?c_E_size_at ?k_E_size_at; (case a_E_size_at => k_is); (case l_E_size_at => k_is); (case c_E_size_at => k_is); (case k_E_size_at => k_is)))
    (case E_lifted => (refine' Bw.fun_at KX G ?a_E_lifted ?l_E_lifted ?c_E_lifted ?k_E_lifted; (case a_E_lifted => k_is); (case l_E_lifted => k_is); (case c_E_lifted => k_is); (case k_E_lifted => k_is)))
    (case E_over_all => (refine' Bw.fun_at KX G ?a_E_over_all ?l_E_over_all ?c_E_over_all ?k_E_over_all; (case a_E_over_all => k_is); (case l_E_over_all => k_is); (case c_E_over_all => k_is); (case k_E_over_all => k_is)))
    (case E_greatest_power => (refine' Bw.fun_at KX G ?a_E_greatest_power ?l_E_greatest_power ?c_E_greatest_power ?k_E_greatest_power; (case a_E_greatest_power => k_is); (case l_E_greatest_power => k_is); (case c_E_greatest_power => k_is); (case k_E_greatest_power => k_is)))
    (case E_cleared => (refine' Bw.fun_at KX G ?a_E_cleared ?l_E_cleared ?c_E_cleared ?k_E_cleared; (case a_E_cleared => k_is); (case l_E_cleared => k_is); (case c_E_cleared => k_is); (case k_E_cleared => k_is)))
    (case E_triangular => (refine' Bw.fun_at KX G ?a_E_triangular ?l_E_triangular ?c_E_triangular ?k_E_triangular; (case a_E_triangular => k_is); (case l_E_triangular => k_is); (case c_E_triangular => k_is); (case k_E_triangular => k_is)))
    (case E_coordinates => (refine' Bw.fun_at KX G ?a_E_coordinates ?l_E_coordinates ?c_E_coordinates ?k_E_coordinates; (case a_E_coordinates => k_is); (case l_E_coordinates => k_is); (case c_E_coordinates => k_is); (case k_E_coordinates => k_is)))
    (case E_clear_column => (refine' Bw.fun_at KX G ?a_E_clear_column ?l_E_clear_column ?c_E_clear_column ?k_E_clear_column; (case a_E_clear_column => k_is); (case l_E_clear_column => k_is); (case c_E_clear_column => k_is); (case k_E_clear_column => k_is)))
    (case E_kernel => (refine' Bw.fun_at KX G ?a_E_kernel ?l_E_kernel ?c_E_kernel ?k_E_kernel; (case a_E_kernel => k_is); (case l_E_kernel => k_is); (case c_E_kernel => k_is); (case k_E_kernel => k_is)))
    (case E_m_init => (refine' Bw.meth_at ?a_E_m_init ?i_E_m_init ?l_E_m_init ?c_E_m_init ?k_E_m_init; (case a_E_m_init => k_is); (case i_E_m_init => k_is); (case l_E_m_init => k_is); (case c_E_m_init => k_is); (case k_E_m_init => k_is)))
    (case E_m_row_of => (refine' Bw.meth_at ?a_E_m_row_of ?i_E_m_row_of ?l_E_m_row_of ?c_E_m_row_of ?k_E_m_row_of; (case a_E_m_row_of => k_is); (case i_E_m_row_of => k_is); (case l_E_m_row_of => k_is); (case c_E_m_row_of => k_is); (case k_E_m_row_of => k_is)))
    (case E_m_product => (refine' Bw.meth_at ?a_E_m_product ?i_E_m_product ?l_E_m_product ?c_E_m_product ?k_E_m_product; (case a_E_m_product => k_is); (case i_E_m_product => k_is); (case l_E_m_product => k_is); (case c_E_m_product => k_is); (case k_E_m_product => k_is)))
    (case E_m_rest_product => (refine' Bw.meth_at ?a_E_m_rest_product ?i_E_m_rest_product ?l_E_m_rest_product ?c_E_m_rest_product ?k_E_m_rest_product; (case a_E_m_rest_product => k_is); (case i_E_m_rest_product => k_is); (case l_E_m_rest_product => k_is); (case c_E_m_rest_product => k_is); (case k_E_m_rest_product => k_is)))
    (case E_m_raised => (refine' Bw.meth_at ?a_E_m_raised ?i_E_m_raised ?l_E_m_raised ?c_E_m_raised ?k_E_m_raised; (case a_E_m_raised => k_is); (case i_E_m_raised => k_is); (case l_E_m_raised => k_is); (case c_E_m_raised => k_is); (case k_E_m_raised => k_is)))
    (case E_m_units => (refine' Bw.meth_at ?a_E_m_units ?i_E_m_units ?l_E_m_units ?c_E_m_units ?k_E_m_units; (case a_E_m_units => k_is); (case i_E_m_units => k_is); (case l_E_m_units => k_is); (case c_E_m_units => k_is); (case k_E_m_units => k_is)))
    (case E_m_basis_of => (refine' Bw.meth_at ?a_E_m_basis_of ?i_E_m_basis_of ?l_E_m_basis_of ?c_E_m_basis_of ?k_E_m_basis_of; (case a_E_m_basis_of => k_is); (case i_E_m_basis_of => k_is); (case l_E_m_basis_of => k_is); (case c_E_m_basis_of => k_is); (case k_E_m_basis_of => k_is)))
    (case E_m_by_ideal => (refine' Bw.meth_at ?a_E_m_by_ideal ?i_E_m_by_ideal ?l_E_m_by_ideal ?c_E_m_by_ideal ?k_E_m_by_ideal; (case a_E_m_by_ideal => k_is); (case i_E_m_by_ideal => k_is); (case l_E_m_by_ideal => k_is); (case c_E_m_by_ideal => k_is); (case k_E_m_by_ideal => k_is)))
    (case E_m_radical => (refine' Bw.meth_at ?a_E_m_radical ?i_E_m_radical ?l_E_m_radical ?c_E_m_radical ?k_E_m_radical; (case a_E_m_radical => k_is); (case i_E_m_radical => k_is); (case l_E_m_radical => k_is); (case c_E_m_radical => k_is); (case k_E_m_radical => k_is)))
    (case E_m_greater => (refine' Bw.meth_at ?a_E_m_greater ?i_E_m_greater ?l_E_m_greater ?c_E_m_greater ?k_E_m_greater; (case a_E_m_greater => k_is); (case i_E_m_greater => k_is); (case l_E_m_greater => k_is); (case c_E_m_greater => k_is); (case k_E_m_greater => k_is)))
    (case E_pivot_below => (refine' Bw.fun_at KX G ?a_E_pivot_below ?l_E_pivot_below ?c_E_pivot_below ?k_E_pivot_below; (case a_E_pivot_below => k_is); (case l_E_pivot_below => k_is); (case c_E_pivot_below => k_is); (case k_E_pivot_below => k_is)))
    (case E_determinant => (refine' Bw.fun_at KX G ?a_E_determinant ?l_E_determinant ?c_E_determinant ?k_E_determinant; (case a_E_determinant => k_is); (case l_E_determinant => k_is); (case c_E_determinant => k_is); (case k_E_determinant => k_is)))
    (case E_resultant => (refine' Bw.fun_at KX G ?a_E_resultant ?l_E_resultant ?c_E_resultant ?k_E_resultant; (case a_E_resultant => k_is); (case l_E_resultant => k_is); (case c_E_resultant => k_is); (case k_E_resultant => k_is)))
    (case E_discriminant => (refine' Bw.fun_at KX G ?a_E_discriminant ?l_E_discriminant ?c_E_discriminant ?k_E_discriminant; (case a_E_discriminant => k_is); (case l_E_discriminant => k_is); (case c_E_discriminant => k_is); (case k_E_discriminant => k_is)))
    (case E_is_whole => (refine' Bw.fun_at KX G ?a_E_is_whole ?l_E_is_whole ?c_E_is_whole ?k_E_is_whole; (case a_E_is_whole => k_is); (case l_E_is_whole => k_is); (case c_E_is_whole => k_is); (case k_E_is_whole => k_is)))
    (case E_is_prime => (refine' Bw.fun_at KX G ?a_E_is_prime ?l_E_is_prime ?c_E_is_prime ?k_E_is_prime; (case a_E_is_prime => k_is); (case l_E_is_prime => k_is); (case c_E_is_prime => k_is); (case k_E_is_prime => k_is)))
    (case E_is_polynomial => (refine' Bw.fun_at KX G ?a_E_is_polynomial ?l_E_is_polynomial ?c_E_is_polynomial ?k_E_is_polynomial; (case a_E_is_polynomial => k_is); (case l_E_is_polynomial => k_is); (case c_E_is_polynomial => k_is); (case k_E_is_polynomial => k_is)))
    (case E_look_at => (refine' Bw.fun_at KX G ?a_E_look_at ?l_E_look_at ?c_E_look_at ?k_E_look_at; (case a_E_look_at => k_is); (case l_E_look_at => k_is); (case c_E_look_at => k_is); (case k_E_look_at => k_is)))
    (case E_whole_basis => (refine' Bw.fun_at KX G ?a_E_whole_basis ?l_E_whole_basis ?c_E_whole_basis ?k_E_whole_basis; (case a_E_whole_basis => k_is); (case l_E_whole_basis => k_is); (case c_E_whole_basis => k_is); (case k_E_whole_basis => k_is)))
    (case E_law_cell_at => (refine' Bw.fun_at KX G ?a_E_law_cell_at ?l_E_law_cell_at ?c_E_law_cell_at ?k_E_law_cell_at; (case a_E_law_cell_at => k_is); (case l_E_law_cell_at => k_is); (case c_E_law_cell_at => k_is); (case k_E_law_cell_at => k_is)))
    (case E_law_number => (refine' Bw.fun_at KX G ?a_E_law_number ?l_E_law_number ?c_E_law_number ?k_E_law_number; (case a_E_law_number => k_is); (case l_E_law_number => k_is); (case c_E_law_number => k_is); (case k_E_law_number => k_is)))
    (case E_law_trimmed => (refine' Bw.fun_at KX G ?a_E_law_trimmed ?l_E_law_trimmed ?c_E_law_trimmed ?k_E_law_trimmed; (case a_E_law_trimmed => k_is); (case l_E_law_trimmed => k_is); (case c_E_law_trimmed => k_is); (case k_E_law_trimmed => k_is)))
    (case E_law_times => (refine' Bw.fun_at KX G ?a_E_law_times ?l_E_law_times ?c_E_law_times ?k_E_law_times; (case a_E_law_times => k_is); (case l_E_law_times => k_is); (case c_E_law_times => k_is); (case k_E_law_times => k_is)))
    (case E_law_product => (refine' Bw.fun_at KX G ?a_E_law_product ?l_E_law_product ?c_E_law_product ?k_E_law_product; (case a_E_law_product => k_is); (case l_E_law_product => k_is); (case c_E_law_product => k_is); (case k_E_law_product => k_is)))
    (case E_law_size => (refine' Bw.fun_at KX G ?a_E_law_size ?l_E_law_size ?c_E_law_size ?k_E_law_size; (case a_E_law_size => k_is); (case l_E_law_size => k_is); (case c_E_law_size => k_is); (case k_E_law_size => k_is)))
    (case E_law_due => (refine' Bw.fun_at KX G ?a_E_law_due ?l_E_law_due ?c_E_law_due ?k_E_law_due; (case a_E_law_due => k_is); (case l_E_law_due => k_is); (case c_E_law_due => k_is); (case k_E_law_due => k_is)))
    (case E_law_outcome => (refine' Bw.fun_at KX G ?a_E_law_outcome ?l_E_law_outcome ?c_E_law_outcome ?k_E_law_outcome; (case a_E_law_outcome => k_is); (case l_E_law_outcome => k_is); (case c_E_law_outcome => k_is); (case k_E_law_outcome => k_is)))
    (case E_law_odd => (refine' Bw.fun_at KX G ?a_E_law_odd ?l_E_law_odd ?c_E_law_odd ?k_E_law_odd; (case a_E_law_odd => k_is); (case l_E_law_odd => k_is); (case c_E_law_odd => k_is); (case k_E_law_odd => k_is)))
    (case E_law => (refine' Bw.fun_at KX G ?a_E_law ?l_E_law ?c_E_law ?k_E_law; (case a_E_law => k_is); (case l_E_law => k_is); (case c_E_law => k_is); (case k_E_law => k_is)))
