import PyProof.Rows.All
import Wide.All
import OpenK.AllK
import Wide.FinOn
import PySem.Challenge.RW_pairfolds_k20_whole_no_folding_below_any
import HandS.Base
import HandS.Call
import HandS.Ends
import HandS.More
import HandS.Words
import HandS.WordsExc
import HandS.Defaults
import HandS.Head0
import HandS.Head1
import HandS.Head2
import HandS.HeadEnd
import HandS.HeadHook1
import HandS.HeadHook2
import HandS.HeadHook3
import HandS.HeadHook4
import HandS.HeadWalk
import KE.KDictPairs
import HandS.ForMost
import KE.SortKeyHeap
import KE.KDictCopyH
import KE.KDictSum
import HandS.SortKw
import HandS.Conv
import HandS.Nested
import HandS.Strs
import HandS.TupAny
import HandS.TupMul
import HandS.Wide
import HandS.IsInst
import HandS.Style
import HandS.RevRange
import HandS.Evl
import KE.GoesZip
import KE.GoesEnumKw
import HandS.Zip
import HandS.DictComp
-- part PfMath
/-! Plain laws: foldings, tables, bounds. Core Lean only; no program in sight. -/
set_option autoImplicit false
set_option linter.all false
namespace PF
inductive Kd where
  | shut | one | two | opn
  deriving DecidableEq, Repr
abbrev Ky := Kd × Int × Int
abbrev Pr := Int × Int
/-- what a string and rules are to the tables -/
structure G where
  n : Int
  fits : Int → Int → Bool
  pw : Int → Int → Int
  L : Nat → Int
  sw : Int → Int → Int → Int → Int
abbrev Tb := Ky → Option Int
abbrev Way := Int × List Ky

/-! ### foldings -/
inductive Fold (g : G) : Int → Int → List Pr → Prop where
  | nil {i j : Int} (h : j ≤ i) : Fold g i j []
  | skip {i j : Int} {f : List Pr} (h : i < j) (t : Fold g (i + 1) j f) : Fold g i j f
  | pair {i j k : Int} {a b : List Pr} (h : i < k) (hk : k ≤ j) (hf : g.fits i k = true) (ta : Fold g (i + 1) (k - 1) a) (tb : Fold g (k + 1) j b) : Fold g i j ((i, k) :: (a ++ b))

def straight : List Pr → Int → Int → List Pr
  | [], _, _ => []
  | (i, j) :: r, e, h => if i > e ∧ j < h then (i, j) :: straight r j h else straight r e h
def widths : List Pr → Int
  | [] => 0
  | (p, q) :: r => (q - p + 1) + widths r
def freeIn (i j : Int) (inner : List Pr) : Int := j - i - 1 - widths inner
def loopOf (g : G) (i j : Int) (inner : List Pr) : Int :=
  match inner with
  | [] => g.L 6 + freeIn i j inner * g.L 7
  | [(p, q)] => if freeIn i j inner > 0 then g.L 1 + freeIn i j inner * g.L 2 else g.L 0 + g.sw i j p q
  | _ => g.L 3 + (inner.length : Int) * g.L 4 + freeIn i j inner * g.L 5
def loopW (g : G) (f : List Pr) (p : Pr) : Int := loopOf g p.1 p.2 (straight f p.1 p.2)
def shutOn (g : G) (f : List Pr) : List Pr → Int
  | [] => 0
  | p :: r => (g.pw p.1 p.2 + loopW g f p) + shutOn g f r
def shutW (g : G) (f : List Pr) : Int := shutOn g f f
def wholeW (g : G) (f : List Pr) : Int := shutW g f + g.L 8 * ((straight f (-1) g.n).length : Int)

section
variable {g : G}
theorem Fold.in_ {i j : Int} {f : List Pr} (t : Fold g i j f) : ∀ p ∈ f, i ≤ p.1 ∧ p.1 < p.2 ∧ p.2 ≤ j := by
  induction t with
  | nil h => intro p hp; cases hp
  | skip h t ih => intro p hp; have := ih p hp; omega
  | @pair i j k a b h hk hf ta tb iha ihb =>
    intro p hp
    rcases List.mem_cons.mp hp with rfl | hp
    · exact ⟨by simp, h, hk⟩
    · rcases List.mem_append.mp hp with hp | hp
      · have := iha p hp; omega
      · have := ihb p hp; omega
theorem Fold.fits {i j : Int} {f : List Pr} (t : Fold g i j f) : ∀ p ∈ f, g.fits p.1 p.2 = true := by
  induction t with
  | nil h => intro p hp; cases hp
  | skip h t ih => exact ih
  | @pair i j k a b h hk hf ta tb iha ihb =>
    intro p hp
    rcases List.mem_cons.mp hp with rfl | hp
    · exact hf
    · rcases List.mem_append.mp hp with hp | hp
      · exact iha p hp
      · exact ihb p hp
/-- the first places rise -/
theorem Fold.rising {i j : Int} {f : List Pr} (t : Fold g i j f) : f.Pairwise (fun p q => p.1 < q.1) := by
  induction t with
  | nil h => exact .nil
  | skip h t ih => exact ih
  | @pair i j k a b h hk hf ta tb iha ihb =>
    refine List.pairwise_cons.mpr ⟨fun p hp => ?_, List.pairwise_append.mpr ⟨iha, ihb, fun p hp q hq => ?_⟩⟩
    · rcases List.mem_append.mp hp with hp | hp
      · have := ta.in_ p hp; simp only; omega
      · have := tb.in_ p hp; simp only; omega
    · have h1 := ta.in_ p hp
      have h2 := tb.in_ q hq
      omega
theorem straight_skip {e h : Int} : ∀ {a b : List Pr}, (∀ p ∈ a, ¬ (p.1 > e ∧ p.2 < h)) → straight (a ++ b) e h = straight b e h
  | [], _, _ => rfl
  | (i, j) :: r, b, hs => by
    have h1 := hs (i, j) List.mem_cons_self
    show (if i > e ∧ j < h then (i, j) :: straight (r ++ b) j h else straight (r ++ b) e h) = _
    rw [if_neg h1]
    exact straight_skip fun p hp => hs p (List.mem_cons_of_mem _ hp)
theorem straight_nil {e h : Int} {a : List Pr} (hs : ∀ p ∈ a, ¬ (p.1 > e ∧ p.2 < h)) : straight a e h = [] := by
  have q := straight_skip (e := e) (h := h) (b := []) hs
  rw [List.append_nil] at q
  exact q
/-- where it begins does not matter ahead of all -/
theorem straight_start {e e' h : Int} : ∀ {a : List Pr}, (∀ p ∈ a, p.1 > e ∧ p.1 > e') → straight a e h = straight a e' h
  | [], _ => rfl
  | (i, j) :: r, hs => by
    have h1 := hs (i, j) List.mem_cons_self
    simp only at h1
    show (if i > e ∧ j < h then _ else _) = (if i > e' ∧ j < h then _ else _)
    by_cases hj : j < h
    · rw [if_pos ⟨h1.1, hj⟩, if_pos ⟨h1.2, hj⟩]
    · rw [if_neg (fun z => hj z.2), if_neg (fun z => hj z.2)]
      exact straight_start fun p hp => hs p (List.mem_cons_of_mem _ hp)
theorem straight_app {e h : Int} : ∀ {a b : List Pr}, (∀ p ∈ b, ∀ e', ¬ (p.1 > e' ∧ p.2 < h)) → straight (a ++ b) e h = straight a e h
  | [], b, hs => straight_nil fun p hp => hs p hp e
  | (i, j) :: r, b, hs => by
    show (if i > e ∧ j < h then (i, j) :: straight (r ++ b) j h else straight (r ++ b) e h) = (if i > e ∧ j < h then (i, j) :: straight r j h else straight r e h)
    rw [straight_app (e := j) (a := r) hs, straight_app (e := e) (a := r) hs]
/-- the outermost pairs of a folding -/
theorem straight_pair {i j k lo hi : Int} {a b : List Pr} (ta : Fold g (i + 1) (k - 1) a) (tb : Fold g (k + 1) j b) (hik : i < k) (h1 : lo < i) (h2 : k < hi) :
    straight ((i, k) :: (a ++ b)) lo hi = (i, k) :: straight b k hi := by
  show (if i > lo ∧ k < hi then (i, k) :: straight (a ++ b) k hi else _) = _
  rw [if_pos ⟨h1, h2⟩, straight_skip fun p hp => ?_]
  have := ta.in_ p hp
  omega
/-- the pairs straight within the first pair -/
theorem straight_own {i j k : Int} {a b : List Pr} (ta : Fold g (i + 1) (k - 1) a) (tb : Fold g (k + 1) j b) :
    straight ((i, k) :: (a ++ b)) i k = straight a i k := by
  show (if i > i ∧ k < k then _ else straight (a ++ b) i k) = _
  rw [if_neg (by omega)]
  refine straight_app fun p hp e' => ?_
  have := tb.in_ p hp
  omega
theorem straight_left {i j k p q : Int} {a b : List Pr} (ta : Fold g (i + 1) (k - 1) a) (tb : Fold g (k + 1) j b) (hp : i < p) (hq : q < k) :
    straight ((i, k) :: (a ++ b)) p q = straight a p q := by
  show (if i > p ∧ k < q then _ else straight (a ++ b) p q) = _
  rw [if_neg (by omega)]
  refine straight_app fun r hr e' => ?_
  have := tb.in_ r hr
  omega
theorem straight_right {i k p q : Int} {a b : List Pr} (ta : Fold g (i + 1) (k - 1) a) (hik : i < k) (hp : k < p) :
    straight ((i, k) :: (a ++ b)) p q = straight b p q := by
  show (if i > p ∧ k < q then _ else straight (a ++ b) p q) = _
  rw [if_neg (by omega)]
  refine straight_skip fun r hr => ?_
  have := ta.in_ r hr
  omega
theorem shutOn_congr {f f' : List Pr} : ∀ {l : List Pr}, (∀ p ∈ l, straight f p.1 p.2 = straight f' p.1 p.2) → shutOn g f l = shutOn g f' l
  | [], _ => rfl
  | p :: r, h => by
    show (g.pw p.1 p.2 + loopW g f p) + shutOn g f r = (g.pw p.1 p.2 + loopW g f' p) + shutOn g f' r
    unfold loopW
    rw [h p List.mem_cons_self, shutOn_congr fun q hq => h q (List.mem_cons_of_mem _ hq)]
theorem shutOn_append {f : List Pr} : ∀ {l m : List Pr}, shutOn g f (l ++ m) = shutOn g f l + shutOn g f m
  | [], m => by simp [shutOn]
  | p :: r, m => by
    show (g.pw p.1 p.2 + loopW g f p) + shutOn g f (r ++ m) = ((g.pw p.1 p.2 + loopW g f p) + shutOn g f r) + shutOn g f m
    rw [shutOn_append]
    omega
theorem shutW_pair {i j k : Int} {a b : List Pr} (ta : Fold g (i + 1) (k - 1) a) (tb : Fold g (k + 1) j b) (hik : i < k) :
    shutW g ((i, k) :: (a ++ b)) = (g.pw i k + loopOf g i k (straight a i k)) + shutW g a + shutW g b := by
  show (g.pw i k + loopW g ((i, k) :: (a ++ b)) (i, k)) + shutOn g ((i, k) :: (a ++ b)) (a ++ b) = _
  rw [shutOn_append]
  have e1 : shutOn g ((i, k) :: (a ++ b)) a = shutOn g a a := shutOn_congr fun p hp => by
    have := ta.in_ p hp
    exact straight_left ta tb (by omega) (by omega)
  have e2 : shutOn g ((i, k) :: (a ++ b)) b = shutOn g b b := shutOn_congr fun p hp => by
    have := tb.in_ p hp
    exact straight_right ta hik (by omega)
  have e3 : loopW g ((i, k) :: (a ++ b)) (i, k) = loopOf g i k (straight a i k) := by
    unfold loopW
    rw [straight_own ta tb]
  rw [e1, e2, e3]
  unfold shutW
  omega
/-- the outermost pairs, from anywhere ahead to anywhere behind -/
def tops (f : List Pr) (i j : Int) : List Pr := straight f (i - 1) (j + 1)
theorem Fold.tops_eq {i j lo hi : Int} {f : List Pr} (t : Fold g i j f) (h1 : lo < i) (h2 : j < hi) : straight f lo hi = tops f i j := by
  unfold tops
  induction t generalizing lo hi with
  | nil h => rfl
  | @skip i j f h t ih => rw [ih (lo := lo) (hi := hi) (by omega) h2, ← ih (lo := i - 1) (hi := j + 1) (by omega) (by omega)]
  | @pair i j k a b h hk hf ta tb iha ihb =>
    rw [straight_pair ta tb h h1 (by omega), straight_pair ta tb h (by omega) (by omega)]
    rw [ihb (lo := k) (hi := hi) (by omega) h2, ← ihb (lo := k) (hi := j + 1) (by omega) (by omega)]
theorem tops_pair {i j k : Int} {a b : List Pr} (ta : Fold g (i + 1) (k - 1) a) (tb : Fold g (k + 1) j b) (h : i < k) (hk : k ≤ j) : tops ((i, k) :: (a ++ b)) i j = (i, k) :: tops b (k + 1) j := by
  unfold tops
  rw [straight_pair ta tb h (by omega) (by omega)]
  have e : k + 1 - 1 = k := by omega
  rw [e]
theorem tops_skip {i j : Int} {f : List Pr} (t : Fold g (i + 1) j f) : tops f i j = tops f (i + 1) j := t.tops_eq (by omega) (by omega)
theorem own_tops {i k : Int} {a : List Pr} (ta : Fold g (i + 1) (k - 1) a) : straight a i k = tops a (i + 1) (k - 1) := ta.tops_eq (by omega) (by omega)
theorem Fold.tops_nil {i j : Int} {f : List Pr} (t : Fold g i j f) (h : tops f i j = []) : f = [] := by
  induction t with
  | nil h => rfl
  | @skip i j f hij t ih => exact ih (by rw [← tops_skip t]; exact h)
  | @pair i j k a b hik hk hf ta tb iha ihb => rw [tops_pair ta tb hik hk] at h; cases h
theorem Fold.empty : ∀ (m : Nat) (i j : Int), (j - i).toNat ≤ m → Fold g i j []
  | 0, i, j, h => .nil (by omega)
  | m + 1, i, j, h => by
    by_cases hij : i < j
    · exact .skip hij (Fold.empty m (i + 1) j (by omega))
    · exact .nil (by omega)
theorem Fold.none_ (i j : Int) : Fold g i j [] := Fold.empty _ i j (Nat.le_refl _)
/-- one outermost pair: the folding is that pair with what lies within -/
theorem Fold.single {i j p q : Int} {f : List Pr} (t : Fold g i j f) (h : tops f i j = [(p, q)]) : ∃ a, f = (p, q) :: a ∧ Fold g (p + 1) (q - 1) a ∧ i ≤ p ∧ p < q ∧ q ≤ j ∧ g.fits p q = true := by
  induction t with
  | nil h1 => cases h
  | @skip i j f hij t ih =>
    obtain ⟨a, e, ta, h1, h2, h3, h4⟩ := ih (by rw [← tops_skip t]; exact h)
    exact ⟨a, e, ta, by omega, h2, h3, h4⟩
  | @pair i j k a b hik hk hf ta tb iha ihb =>
    rw [tops_pair ta tb hik hk] at h
    injection h with h1 h2
    injection h1 with h3 h4
    subst h3; subst h4
    have hb : b = [] := tb.tops_nil h2
    subst hb
    exact ⟨a, by rw [List.append_nil], ta, by omega, hik, hk, hf⟩
end
/-! ### tables -/
def irange (a b : Int) : List Int := (List.range (b - a).toNat).map fun (t : Nat) => a + (t : Int)
theorem mem_irange {a b x : Int} : x ∈ irange a b ↔ a ≤ x ∧ x < b := by
  unfold irange
  rw [List.mem_map]
  constructor
  · rintro ⟨t, ht, rfl⟩
    have := List.mem_range.mp ht
    omega
  · intro h
    exact ⟨(x - a).toNat, List.mem_range.mpr (by omega), by omega⟩
theorem irange_nil {a b : Int} (h : b ≤ a) : irange a b = [] := by
  unfold irange
  rw [show (b - a).toNat = 0 by omega]
  rfl
def withinOwn (g : G) (i j p q : Int) : Int :=
  if p - i - 1 + j - q - 1 = 0 then g.L 0 + g.sw i j p q else g.L 1 + (p - i - 1 + j - q - 1) * g.L 2
def withinWays (g : G) (i j : Int) : List Way := (irange (i + 1) (j - 1)).flatMap fun p => (irange (p + 1) j).map fun q => (withinOwn g i j p q, [(.shut, p, q)])
def shutWays (g : G) (i j : Int) : List Way :=
  if g.fits i j = true then
    (((g.L 6 + (j - i - 1) * g.L 7, ([] : List Ky)) :: withinWays g i j) ++ [(g.L 3, [(Kd.two, i + 1, j - 1)])]).map fun (w : Way) => (g.pw i j + w.1, w.2)
  else []
def oneWays (g : G) (i j : Int) : List Way :=
  (g.L 5, [(.one, i + 1, j)]) :: (irange (i + 1) (j + 1)).flatMap fun k => [(g.L 4 + (j - k) * g.L 5, [(.shut, i, k)]), (g.L 4, [(.shut, i, k), (.one, k + 1, j)])]
def twoWays (g : G) (i j : Int) : List Way :=
  (g.L 5, [(.two, i + 1, j)]) :: (irange (i + 1) (j + 1)).map fun k => (g.L 4, [(.shut, i, k), (.one, k + 1, j)])
def openWays (g : G) (i j : Int) : List Way :=
  if i > j then [(0, [])] else (0, [(.opn, i + 1, j)]) :: (irange (i + 1) (j + 1)).map fun k => (g.L 8, [(.shut, i, k), (.opn, k + 1, j)])
def waysM (g : G) : Ky → List Way
  | (.shut, i, j) => shutWays g i j
  | (.one, i, j) => oneWays g i j
  | (.two, i, j) => twoWays g i j
  | (.opn, i, j) => openWays g i j
def keysL (n : Int) : List Ky :=
  (irange 0 (n + 1)).map (fun i => (Kd.opn, i, n - 1)) ++ (irange 0 n).flatMap fun i => (irange i n).flatMap fun j => [(Kd.one, i, j), (Kd.two, i, j)] ++ (if i < j then [(Kd.shut, i, j)] else [])
def IsKey (n : Int) : Ky → Prop
  | (.opn, i, j) => 0 ≤ i ∧ i ≤ n ∧ j = n - 1
  | (.one, i, j) => 0 ≤ i ∧ i ≤ j ∧ j < n
  | (.two, i, j) => 0 ≤ i ∧ i ≤ j ∧ j < n
  | (.shut, i, j) => 0 ≤ i ∧ i < j ∧ j < n
theorem mem_keysL {n : Int} {k : Ky} : k ∈ keysL n ↔ IsKey n k := by
  unfold keysL
  rw [List.mem_append, List.mem_map, List.mem_flatMap]
  constructor
  · rintro (⟨i, hi, rfl⟩ | ⟨i, hi, h⟩)
    · have := mem_irange.mp hi
      exact ⟨by omega, by omega, rfl⟩
    · obtain ⟨j, hj, h⟩ := List.mem_flatMap.mp h
      have h1 := mem_irange.mp hi
      have h2 := mem_irange.mp hj
      rcases List.mem_append.mp h with h | h
      · rcases List.mem_cons.mp h with rfl | h
        · exact ⟨by omega, by omega, by omega⟩
        · have := List.mem_singleton.mp h
          subst this
          exact ⟨by omega, by omega, by omega⟩
      · split at h
        · have := List.mem_singleton.mp h
          subst this
          exact ⟨by omega, by omega, by omega⟩
        · cases h
  · obtain ⟨kd, i, j⟩ := k
    intro h
    cases kd with
    | opn =>
      obtain ⟨h1, h2, rfl⟩ := h
      exact .inl ⟨i, mem_irange.mpr (by omega), rfl⟩
    | one =>
      obtain ⟨h1, h2, h3⟩ := h
      exact .inr ⟨i, mem_irange.mpr (by omega), List.mem_flatMap.mpr ⟨j, mem_irange.mpr (by omega), by simp⟩⟩
    | two =>
      obtain ⟨h1, h2, h3⟩ := h
      exact .inr ⟨i, mem_irange.mpr (by omega), List.mem_flatMap.mpr ⟨j, mem_irange.mpr (by omega), by simp⟩⟩
    | shut =>
      obtain ⟨h1, h2, h3⟩ := h
      exact .inr ⟨i, mem_irange.mpr (by omega), List.mem_flatMap.mpr ⟨j, mem_irange.mpr (by omega), by simp [h2]⟩⟩

def come (T : Tb) (w : Way) : Option Int := if (w.2.map T).any (·.isNone) = true then none else some (w.1 + ((w.2.map T).map (·.getD 0)).sum)
theorem come0 {T : Tb} {o : Int} : come T (o, []) = some o := by simp [come]
theorem come1 {T : Tb} {o x : Int} {a : Ky} (h : T a = some x) : come T (o, [a]) = some (o + x) := by simp [come, h]
theorem come2 {T : Tb} {o x y : Int} {a b : Ky} (h : T a = some x) (h' : T b = some y) : come T (o, [a, b]) = some (o + (x + y)) := by simp [come, h, h']
theorem of_come0 {T : Tb} {o w : Int} (h : come T (o, []) = some w) : w = o := by rw [come0] at h; exact (Option.some.inj h).symm
theorem of_come1 {T : Tb} {o w : Int} {a : Ky} (h : come T (o, [a]) = some w) : ∃ x, T a = some x ∧ w = o + x := by
  cases e : T a with
  | none => simp [come, e] at h
  | some x => rw [come1 e] at h; exact ⟨x, rfl, (Option.some.inj h).symm⟩
theorem of_come2 {T : Tb} {o w : Int} {a b : Ky} (h : come T (o, [a, b]) = some w) : ∃ x y, T a = some x ∧ T b = some y ∧ w = o + (x + y) := by
  cases e : T a with
  | none => simp [come, e] at h
  | some x =>
    cases e' : T b with
    | none => simp [come, e, e'] at h
    | some y => rw [come2 e e'] at h; exact ⟨x, y, rfl, rfl, (Option.some.inj h).symm⟩
/-- no more: None is more than any -/
def NoMore (a b : Option Int) : Prop := ∀ y, b = some y → ∃ x, a = some x ∧ x ≤ y
def Sound (g : G) (T : Tb) : Prop := ∀ key ∈ keysL g.n, ∀ w ∈ waysM g key, NoMore (T key) (come T w)

/-- what a part within a fork is worth -/
def forkW (g : G) (i j : Int) (f : List Pr) : Int := shutW g f + ((tops f i j).length : Int) * g.L 4 + freeIn (i - 1) (j + 1) (tops f i j) * g.L 5
def pairW (g : G) (i k : Int) (a : List Pr) : Int := (g.pw i k + loopOf g i k (tops a (i + 1) (k - 1))) + shutW g a
def openW (g : G) (i : Int) (f : List Pr) : Int := shutW g f + g.L 8 * ((tops f i (g.n - 1)).length : Int)
section
variable {g : G} {T : Tb}
theorem shutW_eq {i j k : Int} {a b : List Pr} (ta : Fold g (i + 1) (k - 1) a) (tb : Fold g (k + 1) j b) (h : i < k) : shutW g ((i, k) :: (a ++ b)) = pairW g i k a + shutW g b := by
  rw [shutW_pair ta tb h, own_tops ta]
  rfl
theorem forkW_skip {i j : Int} {f : List Pr} (t : Fold g (i + 1) j f) : forkW g i j f = g.L 5 + forkW g (i + 1) j f := by
  unfold forkW freeIn
  rw [tops_skip t]
  have e : j + 1 - (i - 1) - 1 - widths (tops f (i + 1) j) = (j + 1 - (i + 1 - 1) - 1 - widths (tops f (i + 1) j)) + 1 := by omega
  rw [e, Int.add_mul]
  omega
theorem forkW_pair {i j k : Int} {a b : List Pr} (ta : Fold g (i + 1) (k - 1) a) (tb : Fold g (k + 1) j b) (h : i < k) (hk : k ≤ j) : forkW g i j ((i, k) :: (a ++ b)) = g.L 4 + (pairW g i k a + forkW g (k + 1) j b) := by
  unfold forkW freeIn
  rw [shutW_eq ta tb h, tops_pair ta tb h hk]
  show pairW g i k a + shutW g b + (((tops b (k + 1) j).length + 1 : Nat) : Int) * g.L 4 + (j + 1 - (i - 1) - 1 - ((k - i + 1) + widths (tops b (k + 1) j))) * g.L 5 = _
  have e : j + 1 - (i - 1) - 1 - ((k - i + 1) + widths (tops b (k + 1) j)) = j + 1 - (k + 1 - 1) - 1 - widths (tops b (k + 1) j) := by omega
  rw [e, Int.natCast_add, Int.add_mul]
  simp only [Int.natCast_one, Int.one_mul]
  omega
theorem shutW_nil : shutW g [] = 0 := rfl
theorem forkW_nil {i j : Int} : forkW g i j [] = (j - i + 1) * g.L 5 := by
  unfold forkW freeIn
  show 0 + ((0 : Nat) : Int) * g.L 4 + (j + 1 - (i - 1) - 1 - 0) * g.L 5 = _
  rw [show j + 1 - (i - 1) - 1 - 0 = j - i + 1 by omega]
  simp
theorem fork_loop {i k : Int} {a : List Pr} (h2 : 2 ≤ (tops a (i + 1) (k - 1)).length) : g.pw i k + (g.L 3 + forkW g (i + 1) (k - 1) a) = pairW g i k a := by
  unfold pairW forkW loopOf freeIn
  have e : ∀ w : Int, k - 1 + 1 - (i + 1 - 1) - 1 - w = k - i - 1 - w := fun w => by omega
  rw [e]
  match hm : tops a (i + 1) (k - 1), h2 with
  | [], h => simp at h
  | [_], h => simp at h
  | x :: y :: r, _ => simp only; omega
theorem within_loop {i k p q : Int} {a' : List Pr} (ta : Fold g (p + 1) (q - 1) a') (h1 : i + 1 ≤ p) (h2 : p < q) (h3 : q ≤ k - 1) :
    g.pw i k + withinOwn g i k p q + pairW g p q a' = pairW g i k ((p, q) :: a') := by
  have tb : Fold g (q + 1) (k - 1) [] := Fold.none_ _ _
  have e0 : (p, q) :: a' = (p, q) :: (a' ++ []) := by rw [List.append_nil]
  have et : tops ((p, q) :: a') (i + 1) (k - 1) = [(p, q)] := by
    unfold tops
    rw [e0, straight_pair ta tb h2 (by omega) (by omega)]
    rfl
  have es : shutW g ((p, q) :: a') = pairW g p q a' := by
    rw [e0, shutW_eq ta tb h2, shutW_nil]
    omega
  show _ = (g.pw i k + loopOf g i k (tops ((p, q) :: a') (i + 1) (k - 1))) + shutW g ((p, q) :: a')
  rw [et, es]
  have hw : freeIn i k [(p, q)] = p - i - 1 + k - q - 1 := by
    show k - i - 1 - (q - p + 1 + 0) = _
    omega
  show g.pw i k + withinOwn g i k p q + pairW g p q a' = (g.pw i k + (if freeIn i k [(p, q)] > 0 then g.L 1 + freeIn i k [(p, q)] * g.L 2 else g.L 0 + g.sw i k p q)) + pairW g p q a'
  rw [hw]
  unfold withinOwn
  by_cases hz : p - i - 1 + k - q - 1 = 0
  · rw [if_pos hz, if_neg (by omega)]
  · rw [if_neg hz, if_pos (by omega)]
theorem lone_loop {i k : Int} : g.pw i k + (g.L 6 + (k - i - 1) * g.L 7) = pairW g i k [] := by
  show _ = (g.pw i k + (g.L 6 + (k - i - 1 - 0) * g.L 7)) + 0
  rw [show k - i - 1 - 0 = k - i - 1 by omega]
  omega

/-! ### the ways that are there -/
theorem way_lone {i k : Int} (hf : g.fits i k = true) : (g.pw i k + (g.L 6 + (k - i - 1) * g.L 7), []) ∈ waysM g (.shut, i, k) := by
  show _ ∈ shutWays g i k
  unfold shutWays
  rw [if_pos hf]
  exact List.mem_map.mpr ⟨_, List.mem_append_left _ List.mem_cons_self, rfl⟩
theorem way_within {i k p q : Int} (hf : g.fits i k = true) (h1 : i + 1 ≤ p) (h2 : p < q) (h3 : q ≤ k - 1) : (g.pw i k + withinOwn g i k p q, [(Kd.shut, p, q)]) ∈ waysM g (.shut, i, k) := by
  show _ ∈ shutWays g i k
  unfold shutWays
  rw [if_pos hf]
  refine List.mem_map.mpr ⟨(withinOwn g i k p q, [(Kd.shut, p, q)]), List.mem_append_left _ (List.mem_cons_of_mem _ ?_), rfl⟩
  exact List.mem_flatMap.mpr ⟨p, mem_irange.mpr (by omega), List.mem_map.mpr ⟨q, mem_irange.mpr (by omega), rfl⟩⟩
theorem way_fork {i k : Int} (hf : g.fits i k = true) : (g.pw i k + g.L 3, [(Kd.two, i + 1, k - 1)]) ∈ waysM g (.shut, i, k) := by
  show _ ∈ shutWays g i k
  unfold shutWays
  rw [if_pos hf]
  exact List.mem_map.mpr ⟨_, List.mem_append_right _ List.mem_cons_self, rfl⟩
theorem way_one_free {i j : Int} : (g.L 5, [(Kd.one, i + 1, j)]) ∈ waysM g (.one, i, j) := List.mem_cons_self
theorem way_one_last {i j k : Int} (h1 : i < k) (h2 : k ≤ j) : (g.L 4 + (j - k) * g.L 5, [(Kd.shut, i, k)]) ∈ waysM g (.one, i, j) :=
  List.mem_cons_of_mem _ (List.mem_flatMap.mpr ⟨k, mem_irange.mpr (by omega), by simp⟩)
theorem way_one_more {i j k : Int} (h1 : i < k) (h2 : k ≤ j) : (g.L 4, [(Kd.shut, i, k), (Kd.one, k + 1, j)]) ∈ waysM g (.one, i, j) :=
  List.mem_cons_of_mem _ (List.mem_flatMap.mpr ⟨k, mem_irange.mpr (by omega), by simp⟩)
theorem way_two_free {i j : Int} : (g.L 5, [(Kd.two, i + 1, j)]) ∈ waysM g (.two, i, j) := List.mem_cons_self
theorem way_two_more {i j k : Int} (h1 : i < k) (h2 : k ≤ j) : (g.L 4, [(Kd.shut, i, k), (Kd.one, k + 1, j)]) ∈ waysM g (.two, i, j) :=
  List.mem_cons_of_mem _ (List.mem_map.mpr ⟨k, mem_irange.mpr (by omega), rfl⟩)
theorem way_open_end {i j : Int} (h : i > j) : (0, []) ∈ waysM g (.opn, i, j) := by
  show _ ∈ openWays g i j
  unfold openWays
  rw [if_pos h]
  exact List.mem_cons_self
theorem way_open_free {i j : Int} (h : ¬ i > j) : (0, [(Kd.opn, i + 1, j)]) ∈ waysM g (.opn, i, j) := by
  show _ ∈ openWays g i j
  unfold openWays
  rw [if_neg h]
  exact List.mem_cons_self
theorem way_open_pair {i j k : Int} (h1 : i < k) (h2 : k ≤ j) : (g.L 8, [(Kd.shut, i, k), (Kd.opn, k + 1, j)]) ∈ waysM g (.opn, i, j) := by
  show _ ∈ openWays g i j
  unfold openWays
  rw [if_neg (by omega)]
  exact List.mem_cons_of_mem _ (List.mem_map.mpr ⟨k, mem_irange.mpr (by omega), rfl⟩)

/-- at most: the row has a worth, and it is no more -/
def AtMost (T : Tb) (k : Ky) (y : Int) : Prop := ∃ x, T k = some x ∧ x ≤ y
theorem sound_all (S : Sound g T) : ∀ m : Nat,
    (∀ (i k : Int) (a : List Pr), (k - i).toNat ≤ m → 0 ≤ i → i < k → k < g.n → g.fits i k = true → Fold g (i + 1) (k - 1) a → AtMost T (.shut, i, k) (pairW g i k a)) ∧
    (∀ (i j : Int) (f : List Pr), (j - i).toNat ≤ m → 0 ≤ i → j < g.n → Fold g i j f → f ≠ [] → AtMost T (.one, i, j) (forkW g i j f)) ∧
    (∀ (i j : Int) (f : List Pr), (j - i).toNat ≤ m → 0 ≤ i → j < g.n → Fold g i j f → 2 ≤ (tops f i j).length → AtMost T (.two, i, j) (forkW g i j f)) := by
  intro m
  induction m with
  | zero =>
    refine ⟨fun i k a hm h0 hik _ _ _ => by omega, fun i j f hm h0 hj t hne => ?_, fun i j f hm h0 hj t h2 => ?_⟩
    · cases t with
      | nil h => exact absurd rfl hne
      | skip h t => omega
      | pair h hk => omega
    · cases t with
      | nil h => simp [tops, straight] at h2
      | skip h t => omega
      | pair h hk => omega
  | succ m ih =>
    obtain ⟨ih3, ih1, ih2⟩ := ih
    have c3 : ∀ (i k : Int) (a : List Pr), (k - i).toNat ≤ m + 1 → 0 ≤ i → i < k → k < g.n → g.fits i k = true → Fold g (i + 1) (k - 1) a → AtMost T (.shut, i, k) (pairW g i k a) := by
      intro i k a hm h0 hik hk hf ta
      have hkey : (Kd.shut, i, k) ∈ keysL g.n := mem_keysL.mpr ⟨h0, hik, hk⟩
      match ht : tops a (i + 1) (k - 1) with
      | [] =>
        have := ta.tops_nil ht
        subst this
        have q := S _ hkey _ (way_lone hf) _ come0
        rw [lone_loop] at q
        exact q
      | [(p, q)] =>
        obtain ⟨a', rfl, ta', h1, h2, h3, h4⟩ := ta.single ht
        obtain ⟨x, ex, hx⟩ := ih3 p q a' (by omega) (by omega) h2 (by omega) h4 ta'
        obtain ⟨y, ey, hy⟩ := S _ hkey _ (way_within hf h1 h2 h3) _ (come1 ex)
        have e := within_loop (g := g) ta' h1 h2 h3
        exact ⟨y, ey, by omega⟩
      | x :: y :: r =>
        have h2 : 2 ≤ (tops a (i + 1) (k - 1)).length := by rw [ht]; simp
        obtain ⟨x, ex, hx⟩ := ih2 (i + 1) (k - 1) a (by omega) (by omega) (by omega) ta h2
        obtain ⟨y, ey, hy⟩ := S _ hkey _ (way_fork hf) _ (come1 ex)
        have e := fork_loop (g := g) h2
        exact ⟨y, ey, by omega⟩
    have c1 : ∀ (i j : Int) (f : List Pr), (j - i).toNat ≤ m + 1 → 0 ≤ i → j < g.n → Fold g i j f → f ≠ [] → AtMost T (.one, i, j) (forkW g i j f) := by
      intro i j f hm h0 hj t hne
      cases t with
      | nil h => exact absurd rfl hne
      | skip h t =>
        have hkey : (Kd.one, i, j) ∈ keysL g.n := mem_keysL.mpr ⟨h0, by omega, hj⟩
        obtain ⟨x, ex, hx⟩ := ih1 (i + 1) j f (by omega) (by omega) hj t hne
        obtain ⟨y, ey, hy⟩ := S _ hkey _ way_one_free _ (come1 ex)
        exact ⟨y, ey, by rw [forkW_skip t]; omega⟩
      | @pair _ _ k a b hik hkj hf ta tb =>
        have hkey : (Kd.one, i, j) ∈ keysL g.n := mem_keysL.mpr ⟨h0, by omega, hj⟩
        obtain ⟨x, ex, hx⟩ := c3 i k a (by omega) h0 hik (by omega) hf ta
        by_cases hb : b = []
        · subst hb
          obtain ⟨y, ey, hy⟩ := S _ hkey _ (way_one_last hik hkj) _ (come1 ex)
          refine ⟨y, ey, ?_⟩
          rw [forkW_pair ta tb hik hkj, forkW_nil, show j - (k + 1) + 1 = j - k by omega]
          omega
        · obtain ⟨z, ez, hz⟩ := ih1 (k + 1) j b (by omega) (by omega) hj tb hb
          obtain ⟨y, ey, hy⟩ := S _ hkey _ (way_one_more hik hkj) _ (come2 ex ez)
          refine ⟨y, ey, ?_⟩
          rw [forkW_pair ta tb hik hkj]
          omega
    refine ⟨c3, c1, fun i j f hm h0 hj t h2 => ?_⟩
    cases t with
    | nil h => simp [tops, straight] at h2
    | skip h t =>
      have hkey : (Kd.two, i, j) ∈ keysL g.n := mem_keysL.mpr ⟨h0, by omega, hj⟩
      obtain ⟨x, ex, hx⟩ := ih2 (i + 1) j f (by omega) (by omega) hj t (by rw [← tops_skip t]; exact h2)
      obtain ⟨y, ey, hy⟩ := S _ hkey _ way_two_free _ (come1 ex)
      exact ⟨y, ey, by rw [forkW_skip t]; omega⟩
    | @pair _ _ k a b hik hkj hf ta tb =>
      have hkey : (Kd.two, i, j) ∈ keysL g.n := mem_keysL.mpr ⟨h0, by omega, hj⟩
      obtain ⟨x, ex, hx⟩ := c3 i k a (by omega) h0 hik (by omega) hf ta
      rw [tops_pair ta tb hik hkj] at h2
      have hb : b ≠ [] := by
        rintro rfl
        simp [tops, straight] at h2
      obtain ⟨z, ez, hz⟩ := ih1 (k + 1) j b (by omega) (by omega) hj tb hb
      obtain ⟨y, ey, hy⟩ := S _ hkey _ (way_two_more hik hkj) _ (come2 ex ez)
      refine ⟨y, ey, ?_⟩
      rw [forkW_pair ta tb hik hkj]
      omega
theorem sound_shut (S : Sound g T) {i k : Int} {a : List Pr} (h0 : 0 ≤ i) (hik : i < k) (hk : k < g.n) (hf : g.fits i k = true) (ta : Fold g (i + 1) (k - 1) a) : AtMost T (.shut, i, k) (pairW g i k a) :=
  (sound_all S _).1 i k a (Nat.le_refl _) h0 hik hk hf ta
theorem sound_open (S : Sound g T) : ∀ (m : Nat) (i : Int) (f : List Pr), (g.n - i).toNat ≤ m → 0 ≤ i → i ≤ g.n → Fold g i (g.n - 1) f → AtMost T (.opn, i, g.n - 1) (openW g i f) := by
  intro m
  induction m with
  | zero =>
    intro i f hm h0 hi t
    have e : i = g.n := by omega
    have hkey : (Kd.opn, i, g.n - 1) ∈ keysL g.n := mem_keysL.mpr ⟨h0, hi, rfl⟩
    have hf : f = [] := by
      cases t with
      | nil h => rfl
      | skip h t => omega
      | pair h hk => omega
    subst hf
    obtain ⟨y, ey, hy⟩ := S _ hkey _ (way_open_end (by omega)) _ come0
    refine ⟨y, ey, ?_⟩
    show y ≤ 0 + g.L 8 * ((0 : Nat) : Int)
    simp
    exact hy
  | succ m ih =>
    intro i f hm h0 hi t
    have hkey : (Kd.opn, i, g.n - 1) ∈ keysL g.n := mem_keysL.mpr ⟨h0, hi, rfl⟩
    have free : ∀ f : List Pr, i ≤ g.n - 1 → Fold g (i + 1) (g.n - 1) f → AtMost T (.opn, i, g.n - 1) (openW g i f) := by
      intro f h t
      obtain ⟨x, ex, hx⟩ := ih (i + 1) f (by omega) (by omega) (by omega) t
      obtain ⟨y, ey, hy⟩ := S _ hkey _ (way_open_free (by omega)) _ (come1 ex)
      refine ⟨y, ey, ?_⟩
      have e : openW g i f = openW g (i + 1) f := by unfold openW; rw [tops_skip t]
      omega
    cases t with
    | nil h =>
      by_cases hi' : i ≤ g.n - 1
      · exact free [] hi' (Fold.none_ _ _)
      · obtain ⟨y, ey, hy⟩ := S _ hkey _ (way_open_end (by omega)) _ come0
        refine ⟨y, ey, ?_⟩
        show y ≤ 0 + g.L 8 * ((0 : Nat) : Int)
        simp
        exact hy
    | skip h t => exact free f (by omega) t
    | @pair _ _ k a b hik hkj hf ta tb =>
      obtain ⟨x, ex, hx⟩ := sound_shut S h0 hik (by omega) hf ta
      obtain ⟨z, ez, hz⟩ := ih (k + 1) b (by omega) (by omega) (by omega) tb
      obtain ⟨y, ey, hy⟩ := S _ hkey _ (way_open_pair hik hkj) _ (come2 ex ez)
      refine ⟨y, ey, ?_⟩
      unfold openW at hz ⊢
      rw [shutW_eq ta tb hik, tops_pair ta tb hik hkj, List.length_cons, Int.natCast_add, Int.mul_add]
      simp only [Int.natCast_one, Int.mul_one]
      omega
theorem openW_whole {i : Int} {f : List Pr} (t : Fold g i (g.n - 1) f) (h0 : 0 ≤ i) : openW g i f = wholeW g f := by
  unfold openW wholeW
  rw [t.tops_eq (lo := -1) (hi := g.n) (by omega) (by omega)]
/-! ### parts of a folding -/
theorem filter_none {p : Pr → Bool} {l : List Pr} (h : ∀ x ∈ l, p x = false) : l.filter p = [] := by
  rw [List.filter_eq_nil_iff]
  intro x hx
  rw [h x hx]
  decide
theorem filter_all {p : Pr → Bool} {l : List Pr} (h : ∀ x ∈ l, p x = true) : l.filter p = l := List.filter_eq_self.mpr h
def within (p q : Int) (r : Pr) : Bool := decide (p ≤ r.1) && decide (r.2 ≤ q)
theorem within_f {p q : Int} {r : Pr} (h : ¬ (p ≤ r.1 ∧ r.2 ≤ q)) : within p q r = false := by
  unfold within
  by_cases h1 : p ≤ r.1
  · by_cases h2 : r.2 ≤ q
    · exact absurd ⟨h1, h2⟩ h
    · simp [h2]
  · simp [h1]
theorem within_t {p q : Int} {r : Pr} (h : p ≤ r.1 ∧ r.2 ≤ q) : within p q r = true := by
  unfold within
  simp [h.1, h.2]
theorem Fold.inner {i j p q : Int} {f : List Pr} (t : Fold g i j f) : (p, q) ∈ f → ∃ a, f.filter (within p q) = (p, q) :: a ∧ Fold g (p + 1) (q - 1) a := by
  induction t with
  | nil h => intro z; cases z
  | skip h t ih => exact ih
  | @pair i j k a b h hk hf ta tb iha ihb =>
    intro hm
    rw [List.filter_cons, List.filter_append]
    rcases List.mem_cons.mp hm with e | hm
    · cases e
      rw [if_pos (within_t (p := p) (q := q) (r := (p, q)) ⟨Int.le_refl _, Int.le_refl _⟩), filter_all (l := a) fun r hr => ?_, filter_none (l := b) fun r hr => ?_, List.append_nil]
      · exact ⟨a, rfl, ta⟩
      · have := tb.in_ r hr
        exact within_f (by omega)
      · have := ta.in_ r hr
        exact within_t (by omega)
    · rcases List.mem_append.mp hm with hm | hm
      · have h1 := ta.in_ _ hm
        simp only at h1
        rw [if_neg (by rw [within_f (by simp only; omega)]; decide), filter_none (l := b) fun r hr => ?_, List.append_nil]
        · exact iha hm
        · have := tb.in_ r hr
          exact within_f (by omega)
      · have h1 := tb.in_ _ hm
        simp only at h1
        rw [if_neg (by rw [within_f (by simp only; omega)]; decide), filter_none (l := a) fun r hr => ?_, List.nil_append]
        · exact ihb hm
        · have := ta.in_ r hr
          exact within_f (by omega)
def from_ (x : Int) (r : Pr) : Bool := decide (x ≤ r.1)
theorem Fold.later {i j x : Int} {f : List Pr} (t : Fold g i j f) : (∀ r ∈ f, ¬ (r.1 < x ∧ x ≤ r.2)) → i ≤ x → Fold g x j (f.filter (from_ x)) := by
  induction t with
  | nil h => intro _ _; exact Fold.none_ _ _
  | @skip i j f h t ih =>
    intro hn hx
    by_cases e : x = i
    · subst e
      rw [filter_all fun r hr => by have := t.in_ r hr; exact decide_eq_true (by omega)]
      exact .skip h t
    · exact ih hn (by omega)
  | @pair i j k a b h hk hf ta tb iha ihb =>
    intro hn hx
    by_cases e : x = i
    · subst e
      rw [filter_all fun r hr => ?_]
      · exact .pair h hk hf ta tb
      · have := (Fold.pair h hk hf ta tb).in_ r hr
        exact decide_eq_true (by omega)
    · have h1 := hn (i, k) List.mem_cons_self
      simp only at h1
      rw [List.filter_cons, List.filter_append, if_neg (by unfold from_; rw [decide_eq_false (by simp only; omega)]; decide), filter_none (l := a) fun r hr => ?_, List.nil_append]
      · exact ihb (fun r hr => hn r (List.mem_cons_of_mem _ (List.mem_append_right _ hr))) (by omega)
      · have := ta.in_ r hr
        exact decide_eq_false (by omega)
/-- what the law asks of rows and one folding -/
def Below (g : G) (T : Tb) (f : List Pr) : Prop :=
  AtMost T (.opn, 0, g.n - 1) (wholeW g f) ∧ ∀ p ∈ f, AtMost T (.shut, p.1, p.2) (shutW g (f.filter (within p.1 p.2))) ∧
    (f.filter (fun r => decide (r.1 < p.1) && decide (p.1 ≤ r.2)) = [] → AtMost T (.opn, p.1, g.n - 1) (wholeW g (f.filter (from_ p.1))))
theorem below_of (S : Sound g T) (hn : 0 ≤ g.n) {f : List Pr} (t : Fold g 0 (g.n - 1) f) : Below g T f := by
  refine ⟨?_, fun p hp => ⟨?_, fun hc => ?_⟩⟩
  · have q := sound_open S _ 0 f (Nat.le_refl _) (Int.le_refl _) hn t
    rw [openW_whole t (Int.le_refl _)] at q
    exact q
  · have h1 := t.in_ p hp
    obtain ⟨a, e, ta⟩ := t.inner (p := p.1) (q := p.2) hp
    have q := sound_shut S (by omega) h1.2.1 (by omega) (t.fits p hp) ta
    rw [e]
    have e0 : (p.1, p.2) :: a = (p.1, p.2) :: (a ++ []) := by rw [List.append_nil]
    rw [e0, shutW_eq ta (Fold.none_ (p.2 + 1) (g.n - 1)) h1.2.1, shutW_nil, Int.add_zero]
    exact q
  · have h1 := t.in_ p hp
    have tl : Fold g p.1 (g.n - 1) (f.filter (from_ p.1)) := t.later (fun r hr hz => by
      have := List.filter_eq_nil_iff.mp hc r hr
      simp [hz.1, hz.2] at this) h1.1
    have q := sound_open S _ p.1 _ (Nat.le_refl _) h1.1 (by omega) tl
    rw [openW_whole tl h1.1] at q
    exact q

/-! ### the least table -/
structure Fix (g : G) (K : Tb) : Prop where
  sound : Sound g K
  real : ∀ key ∈ keysL g.n, ∀ w, K key = some w → ∃ y ∈ waysM g key, come K y = some w
  out : ∀ key, key ∉ keysL g.n → K key = none
theorem Fix.key {K : Tb} (F : Fix g K) {k : Ky} {w : Int} (h : K k = some w) : IsKey g.n k := by
  by_cases hk : k ∈ keysL g.n
  · exact mem_keysL.mp hk
  · rw [F.out k hk] at h
    cases h
theorem real_all {K : Tb} (F : Fix g K) : ∀ m : Nat,
    (∀ (i k : Int) (w : Int), (k - i).toNat ≤ m → K (.shut, i, k) = some w → ∃ a, Fold g (i + 1) (k - 1) a ∧ g.fits i k = true ∧ w = pairW g i k a) ∧
    (∀ (i j : Int) (w : Int), (j - i).toNat ≤ m → K (.one, i, j) = some w → ∃ f, Fold g i j f ∧ f ≠ [] ∧ w = forkW g i j f) ∧
    (∀ (i j : Int) (w : Int), (j - i).toNat ≤ m → K (.two, i, j) = some w → ∃ f, Fold g i j f ∧ 2 ≤ (tops f i j).length ∧ w = forkW g i j f) := by
  intro m
  induction m with
  | zero =>
    refine ⟨fun i k w hm hw => ?_, fun i j w hm hw => ?_, fun i j w hm hw => ?_⟩
    · have := F.key hw
      obtain ⟨h1, h2, h3⟩ := this
      omega
    · have hk : 0 ≤ i ∧ i ≤ j ∧ j < g.n := F.key hw
      obtain ⟨y, hy, hc⟩ := F.real _ (mem_keysL.mpr (F.key hw)) _ hw
      rcases List.mem_cons.mp (show y ∈ oneWays g i j from hy) with rfl | hy
      · obtain ⟨x, hx, _⟩ := of_come1 hc
        have h2 : 0 ≤ i + 1 ∧ i + 1 ≤ j ∧ j < g.n := F.key hx
        omega
      · obtain ⟨k, hk', _⟩ := List.mem_flatMap.mp hy
        have := mem_irange.mp hk'
        omega
    · have hk : 0 ≤ i ∧ i ≤ j ∧ j < g.n := F.key hw
      obtain ⟨y, hy, hc⟩ := F.real _ (mem_keysL.mpr (F.key hw)) _ hw
      rcases List.mem_cons.mp (show y ∈ twoWays g i j from hy) with rfl | hy
      · obtain ⟨x, hx, _⟩ := of_come1 hc
        have h2 : 0 ≤ i + 1 ∧ i + 1 ≤ j ∧ j < g.n := F.key hx
        omega
      · obtain ⟨k, hk', _⟩ := List.mem_map.mp hy
        have := mem_irange.mp hk'
        omega
  | succ m ih =>
    obtain ⟨ih3, ih1, ih2⟩ := ih
    have c3 : ∀ (i k : Int) (w : Int), (k - i).toNat ≤ m + 1 → K (.shut, i, k) = some w → ∃ a, Fold g (i + 1) (k - 1) a ∧ g.fits i k = true ∧ w = pairW g i k a := by
      intro i k w hm hw
      have hk : 0 ≤ i ∧ i < k ∧ k < g.n := F.key hw
      obtain ⟨y, hy, hc⟩ := F.real _ (mem_keysL.mpr (F.key hw)) _ hw
      have hy : y ∈ shutWays g i k := hy
      unfold shutWays at hy
      by_cases hf : g.fits i k = true
      · rw [if_pos hf] at hy
        obtain ⟨y0, hy0, rfl⟩ := List.mem_map.mp hy
        rcases List.mem_append.mp hy0 with hy0 | hy0
        · rcases List.mem_cons.mp hy0 with rfl | hy0
          · refine ⟨[], Fold.none_ _ _, hf, ?_⟩
            have e0 : w = g.pw i k + (g.L 6 + (k - i - 1) * g.L 7) := of_come0 hc
            rw [e0, lone_loop]
          · obtain ⟨p, hp, hy0⟩ := List.mem_flatMap.mp hy0
            obtain ⟨q, hq, rfl⟩ := List.mem_map.mp hy0
            have h1 := mem_irange.mp hp
            have h2 := mem_irange.mp hq
            obtain ⟨x, hx, rfl⟩ := of_come1 hc
            obtain ⟨a', ta', hf', rfl⟩ := ih3 p q x (by omega) hx
            refine ⟨(p, q) :: a', ?_, hf, ?_⟩
            · have tp : Fold g p (k - 1) ((p, q) :: (a' ++ [])) := .pair (by omega) (by omega) hf' ta' (Fold.none_ _ _)
              rw [List.append_nil] at tp
              have down : ∀ (d : Nat) (l : Int), l ≤ p → (p - l).toNat ≤ d → Fold g l (k - 1) ((p, q) :: a') := by
                intro d
                induction d with
                | zero => intro l hl hd; rw [show l = p by omega]; exact tp
                | succ d ihd =>
                  intro l hl hd
                  by_cases e : l = p
                  · rw [e]; exact tp
                  · exact .skip (by omega) (ihd (l + 1) (by omega) (by omega))
              exact down _ (i + 1) (by omega) (Nat.le_refl _)
            · exact within_loop ta' (by omega) (by omega) (by omega)
        · have := List.mem_singleton.mp hy0
          subst this
          obtain ⟨x, hx, rfl⟩ := of_come1 hc
          obtain ⟨f, tf, h2, rfl⟩ := ih2 (i + 1) (k - 1) x (by omega) hx
          refine ⟨f, tf, hf, ?_⟩
          have e := fork_loop (g := g) h2
          show g.pw i k + g.L 3 + forkW g (i + 1) (k - 1) f = _
          omega
      · rw [if_neg hf] at hy
        cases hy
    have c1 : ∀ (i j : Int) (w : Int), (j - i).toNat ≤ m + 1 → K (.one, i, j) = some w → ∃ f, Fold g i j f ∧ f ≠ [] ∧ w = forkW g i j f := by
      intro i j w hm hw
      have hk : 0 ≤ i ∧ i ≤ j ∧ j < g.n := F.key hw
      obtain ⟨y, hy, hc⟩ := F.real _ (mem_keysL.mpr (F.key hw)) _ hw
      rcases List.mem_cons.mp (show y ∈ oneWays g i j from hy) with rfl | hy
      · obtain ⟨x, hx, rfl⟩ := of_come1 hc
        have h2 : 0 ≤ i + 1 ∧ i + 1 ≤ j ∧ j < g.n := F.key hx
        obtain ⟨f, tf, hne, rfl⟩ := ih1 (i + 1) j x (by omega) hx
        exact ⟨f, .skip (by omega) tf, hne, by rw [forkW_skip tf]⟩
      · obtain ⟨k, hk', hy⟩ := List.mem_flatMap.mp hy
        have h1 := mem_irange.mp hk'
        rcases List.mem_cons.mp hy with rfl | hy
        · obtain ⟨x, hx, rfl⟩ := of_come1 hc
          obtain ⟨a, ta, hf, rfl⟩ := c3 i k x (by omega) hx
          refine ⟨(i, k) :: (a ++ []), .pair (by omega) (by omega) hf ta (Fold.none_ _ _), by simp, ?_⟩
          rw [forkW_pair ta (Fold.none_ _ _) (by omega) (by omega), forkW_nil, show j - (k + 1) + 1 = j - k by omega]
          omega
        · have := List.mem_singleton.mp hy
          subst this
          obtain ⟨x, z, hx, hz, rfl⟩ := of_come2 hc
          obtain ⟨a, ta, hf, rfl⟩ := c3 i k x (by omega) hx
          obtain ⟨b, tb, hb, rfl⟩ := ih1 (k + 1) j z (by omega) hz
          exact ⟨(i, k) :: (a ++ b), .pair (by omega) (by omega) hf ta tb, by simp, by rw [forkW_pair ta tb (by omega) (by omega)]⟩
    refine ⟨c3, c1, fun i j w hm hw => ?_⟩
    have hk : 0 ≤ i ∧ i ≤ j ∧ j < g.n := F.key hw
    obtain ⟨y, hy, hc⟩ := F.real _ (mem_keysL.mpr (F.key hw)) _ hw
    rcases List.mem_cons.mp (show y ∈ twoWays g i j from hy) with rfl | hy
    · obtain ⟨x, hx, rfl⟩ := of_come1 hc
      have h2 : 0 ≤ i + 1 ∧ i + 1 ≤ j ∧ j < g.n := F.key hx
      obtain ⟨f, tf, h2', rfl⟩ := ih2 (i + 1) j x (by omega) hx
      exact ⟨f, .skip (by omega) tf, by rw [tops_skip tf]; exact h2', by rw [forkW_skip tf]⟩
    · obtain ⟨k, hk', rfl⟩ := List.mem_map.mp hy
      have h1 := mem_irange.mp hk'
      obtain ⟨x, z, hx, hz, rfl⟩ := of_come2 hc
      obtain ⟨a, ta, hf, rfl⟩ := c3 i k x (by omega) hx
      obtain ⟨b, tb, hb, rfl⟩ := ih1 (k + 1) j z (by omega) hz
      refine ⟨(i, k) :: (a ++ b), .pair (by omega) (by omega) hf ta tb, ?_, by rw [forkW_pair ta tb (by omega) (by omega)]⟩
      rw [tops_pair ta tb (by omega) (by omega), List.length_cons]
      have : tops b (k + 1) j ≠ [] := fun e => hb (tb.tops_nil e)
      have := List.length_pos_iff.mpr this
      omega
theorem real_open {K : Tb} (F : Fix g K) : ∀ (m : Nat) (i w : Int), (g.n - i).toNat ≤ m → K (.opn, i, g.n - 1) = some w → ∃ f, Fold g i (g.n - 1) f ∧ w = openW g i f := by
  intro m
  induction m with
  | zero =>
    intro i w hm hw
    have hk : 0 ≤ i ∧ i ≤ g.n ∧ g.n - 1 = g.n - 1 := F.key hw
    obtain ⟨y, hy, hc⟩ := F.real _ (mem_keysL.mpr (F.key hw)) _ hw
    have hy : y ∈ openWays g i (g.n - 1) := hy
    unfold openWays at hy
    rw [if_pos (by omega)] at hy
    have := List.mem_singleton.mp hy
    subst this
    refine ⟨[], Fold.none_ _ _, ?_⟩
    rw [of_come0 hc]
    show 0 = 0 + g.L 8 * ((0 : Nat) : Int)
    simp
  | succ m ih =>
    intro i w hm hw
    have hk : 0 ≤ i ∧ i ≤ g.n ∧ g.n - 1 = g.n - 1 := F.key hw
    obtain ⟨y, hy, hc⟩ := F.real _ (mem_keysL.mpr (F.key hw)) _ hw
    have hy : y ∈ openWays g i (g.n - 1) := hy
    unfold openWays at hy
    by_cases hi : i > g.n - 1
    · rw [if_pos hi] at hy
      have := List.mem_singleton.mp hy
      subst this
      refine ⟨[], Fold.none_ _ _, ?_⟩
      rw [of_come0 hc]
      show 0 = 0 + g.L 8 * ((0 : Nat) : Int)
      simp
    · rw [if_neg hi] at hy
      rcases List.mem_cons.mp hy with rfl | hy
      · obtain ⟨x, hx, rfl⟩ := of_come1 hc
        obtain ⟨f, tf, rfl⟩ := ih (i + 1) x (by omega) hx
        refine ⟨f, ?_, ?_⟩
        · by_cases e : i < g.n - 1
          · exact .skip e tf
          · have : f = [] := by
              cases tf with
              | nil h => rfl
              | skip h t => omega
              | pair h hk => omega
            subst this
            exact Fold.none_ _ _
        · unfold openW
          rw [tops_skip tf]
          omega
      · obtain ⟨k, hk', rfl⟩ := List.mem_map.mp hy
        have h1 := mem_irange.mp hk'
        obtain ⟨x, z, hx, hz, rfl⟩ := of_come2 hc
        obtain ⟨a, ta, hf, rfl⟩ := (real_all F _).1 i k x (Nat.le_refl _) hx
        obtain ⟨b, tb, rfl⟩ := ih (k + 1) z (by omega) hz
        refine ⟨(i, k) :: (a ++ b), .pair (by omega) (by omega) hf ta tb, ?_⟩
        unfold openW
        rw [shutW_eq ta tb (by omega), tops_pair ta tb (by omega) (by omega), List.length_cons, Int.natCast_add, Int.mul_add]
        simp only [Int.natCast_one, Int.mul_one]
        omega
/-- the least table's open of 0 is the least worth of all foldings -/
theorem least_open {K : Tb} (F : Fix g K) (hn : 0 ≤ g.n) : ∃ w, K (.opn, 0, g.n - 1) = some w ∧ (∃ f, Fold g 0 (g.n - 1) f ∧ wholeW g f = w) ∧ ∀ f, Fold g 0 (g.n - 1) f → w ≤ wholeW g f := by
  obtain ⟨x, hx, _⟩ := (below_of F.sound hn (Fold.none_ 0 (g.n - 1))).1
  obtain ⟨f, tf, e⟩ := real_open F _ 0 x (Nat.le_refl _) hx
  refine ⟨x, hx, ⟨f, tf, by rw [← openW_whole tf (Int.le_refl _)]; exact e.symm⟩, fun f' tf' => ?_⟩
  obtain ⟨y, hy, hle⟩ := (below_of F.sound hn tf').1
  rw [hx] at hy
  cases hy
  exact hle
end
end PF
-- part PfText
set_option Elab.async false
set_option linter.all false
set_option maxRecDepth 100000
/-! the text by places -/
namespace PF
open PySem
def topS (i : Nat) : Stmt := PySem.Challenge.pw_pairfolds_k20_whole_no_folding_below_any.main.body.getD i (.Pass ⟨0, 0, 0, 0⟩)

abbrev s_pair_worth : Stmt := topS 5
abbrev s_stack_worth : Stmt := topS 6
abbrev s_is_string : Stmt := topS 9
abbrev s_need_string : Stmt := topS 10
abbrev s_both_of : Stmt := topS 11
abbrev s_may_pair : Stmt := topS 12
abbrev s_row_keys : Stmt := topS 14
abbrev s_told_loops : Stmt := topS 15
abbrev s_within_ways : Stmt := topS 16
abbrev s_shut_ways : Stmt := topS 17
abbrev s_one_ways : Stmt := topS 18
abbrev s_two_ways : Stmt := topS 19
abbrev s_open_ways : Stmt := topS 20
abbrev s_ways_of : Stmt := topS 21
abbrev s_come_to : Stmt := topS 22
abbrev s_is_worth : Stmt := topS 23
abbrev s_is_row : Stmt := topS 24
abbrev s_is_no_more : Stmt := topS 25
abbrev s_lets_bounds : Stmt := topS 26
abbrev s_least_of : Stmt := topS 28
abbrev s_filling_order : Stmt := topS 29
abbrev s_known_rows : Stmt := topS 30
abbrev s_table_of : Stmt := topS 31
abbrev s_law_pen : Stmt := topS 33
abbrev s_law_draw : Stmt := topS 34
abbrev s_law_pick : Stmt := topS 35
abbrev s_law_worth : Stmt := topS 36
abbrev s_law_rules : Stmt := topS 37
abbrev s_law_writ : Stmt := topS 38
abbrev s_law_fits : Stmt := topS 39
abbrev s_law_listed : Stmt := topS 40
abbrev s_law_straight : Stmt := topS 41
abbrev s_law_loop : Stmt := topS 42
abbrev s_law_shut : Stmt := topS 43
abbrev s_law_whole : Stmt := topS 44
abbrev s_law_come : Stmt := topS 45
abbrev s_law_shut_ways : Stmt := topS 46
abbrev s_law_ways : Stmt := topS 47
abbrev s_law_keys : Stmt := topS 48
abbrev s_law_least_rows : Stmt := topS 51
abbrev s_law_cheaper : Stmt := topS 52
abbrev s_law_tables : Stmt := topS 53
abbrev s_law_below : Stmt := topS 54
abbrev s_law : Stmt := topS 55
end PF
-- part PfHead
set_option Elab.async false
set_option linter.all false
set_option maxRecDepth 100000
set_option maxHeartbeats 0
/-! the head: facts by names, the run -/
namespace PF
open PySem PySem.Spec PyProof.Rows L2

def d_pair_worth : He.DefD := ⟨("pair_worth", none), "pair_worth", "pair_worth", defArgs s_pair_worth, defBody s_pair_worth, defScope s_pair_worth, [], []⟩
def d_stack_worth : He.DefD := ⟨("stack_worth", none), "stack_worth", "stack_worth", defArgs s_stack_worth, defBody s_stack_worth, defScope s_stack_worth, [], []⟩
def d_is_string : He.DefD := ⟨("is_string", none), "is_string", "is_string", defArgs s_is_string, defBody s_is_string, defScope s_is_string, [], []⟩
def d_need_string : He.DefD := ⟨("need_string", none), "need_string", "need_string", defArgs s_need_string, defBody s_need_string, defScope s_need_string, [], []⟩
def d_both_of : He.DefD := ⟨("both_of", none), "both_of", "both_of", defArgs s_both_of, defBody s_both_of, defScope s_both_of, [], []⟩
def d_may_pair : He.DefD := ⟨("may_pair", none), "may_pair", "may_pair", defArgs s_may_pair, defBody s_may_pair, defScope s_may_pair, [], []⟩
def d_row_keys : He.DefD := ⟨("row_keys", none), "row_keys", "row_keys", defArgs s_row_keys, defBody s_row_keys, defScope s_row_keys, [], []⟩
def d_told_loops : He.DefD := ⟨("told_loops", none), "told_loops", "told_loops", defArgs s_told_loops, defBody s_told_loops, defScope s_told_loops, [], []⟩
def d_within_ways : He.DefD := ⟨("within_ways", none), "within_ways", "within_ways", defArgs s_within_ways, defBody s_within_ways, defScope s_within_ways, [], []⟩
def d_shut_ways : He.DefD := ⟨("shut_ways", none), "shut_ways", "shut_ways", defArgs s_shut_ways, defBody s_shut_ways, defScope s_shut_ways, [], []⟩
def d_one_ways : He.DefD := ⟨("one_ways", none), "one_ways", "one_ways", defArgs s_one_ways, defBody s_one_ways, defScope s_one_ways, [], []⟩
def d_two_ways : He.DefD := ⟨("two_ways", none), "two_ways", "two_ways", defArgs s_two_ways, defBody s_two_ways, defScope s_two_ways, [], []⟩
def d_open_ways : He.DefD := ⟨("open_ways", none), "open_ways", "open_ways", defArgs s_open_ways, defBody s_open_ways, defScope s_open_ways, [], []⟩
def d_ways_of : He.DefD := ⟨("ways_of", none), "ways_of", "ways_of", defArgs s_ways_of, defBody s_ways_of, defScope s_ways_of, [], []⟩
def d_come_to : He.DefD := ⟨("come_to", none), "come_to", "come_to", defArgs s_come_to, defBody s_come_to, defScope s_come_to, [], []⟩
def d_is_worth : He.DefD := ⟨("is_worth", none), "is_worth", "is_worth", defArgs s_is_worth, defBody s_is_worth, defScope s_is_worth, [], []⟩
def d_is_row : He.DefD := ⟨("is_row", none), "is_row", "is_row", defArgs s_is_row, defBody s_is_row, defScope s_is_row, [], []⟩
def d_is_no_more : He.DefD := ⟨("is_no_more", none), "is_no_more", "is_no_more", defArgs s_is_no_more, defBody s_is_no_more, defScope s_is_no_more, [], []⟩
def d_lets_bounds : He.DefD := ⟨("lets_bounds", none), "lets_bounds", "lets_bounds", defArgs s_lets_bounds, defBody s_lets_bounds, defScope s_lets_bounds, [], []⟩
def d_least_of : He.DefD := ⟨("least_of", none), "least_of", "least_of", defArgs s_least_of, defBody s_least_of, defScope s_least_of, [], []⟩
def d_filling_order : He.DefD := ⟨("filling_order", none), "filling_order", "filling_order", defArgs s_filling_order, defBody s_filling_order, defScope s_filling_order, [], []⟩
def d_known_rows : He.DefD := ⟨("known_rows", none), "known_rows", "known_rows", defArgs s_known_rows, defBody s_known_rows, defScope s_known_rows, [], []⟩
def d_table_of : He.DefD := ⟨("table_of", none), "table_of", "table_of", defArgs s_table_of, defBody s_table_of, defScope s_table_of, [], []⟩
def d_law_pen : He.DefD := ⟨("_law_pen", none), "_law_pen", "_law_pen", defArgs s_law_pen, defBody s_law_pen, defScope s_law_pen, [], []⟩
def d_law_draw : He.DefD := ⟨("_law_draw", none), "_law_draw", "_law_draw", defArgs s_law_draw, defBody s_law_draw, defScope s_law_draw, [], []⟩
def d_law_pick : He.DefD := ⟨("_law_pick", none), "_law_pick", "_law_pick", defArgs s_law_pick, defBody s_law_pick, defScope s_law_pick, [], []⟩
def d_law_worth : He.DefD := ⟨("_law_worth", none), "_law_worth", "_law_worth", defArgs s_law_worth, defBody s_law_worth, defScope s_law_worth, [], []⟩
def d_law_rules : He.DefD := ⟨("_law_rules", none), "_law_rules", "_law_rules", defArgs s_law_rules, defBody s_law_rules, defScope s_law_rules, [], []⟩
def d_law_writ : He.DefD := ⟨("_law_writ", none), "_law_writ", "_law_writ", defArgs s_law_writ, defBody s_law_writ, defScope s_law_writ, [], []⟩
def d_law_fits : He.DefD := ⟨("_law_fits", none), "_law_fits", "_law_fits", defArgs s_law_fits, defBody s_law_fits, defScope s_law_fits, [], []⟩
def d_law_listed : He.DefD := ⟨("_law_listed", none), "_law_listed", "_law_listed", defArgs s_law_listed, defBody s_law_listed, defScope s_law_listed, [], []⟩
def d_law_straight : He.DefD := ⟨("_law_straight", none), "_law_straight", "_law_straight", defArgs s_law_straight, defBody s_law_straight, defScope s_law_straight, [], []⟩
def d_law_loop : He.DefD := ⟨("_law_loop", none), "_law_loop", "_law_loop", defArgs s_law_loop, defBody s_law_loop, defScope s_law_loop, [], []⟩
def d_law_shut : He.DefD := ⟨("_law_shut", none), "_law_shut", "_law_shut", defArgs s_law_shut, defBody s_law_shut, defScope s_law_shut, [], []⟩
def d_law_whole : He.DefD := ⟨("_law_whole", none), "_law_whole", "_law_whole", defArgs s_law_whole, defBody s_law_whole, defScope s_law_whole, [], []⟩
def d_law_come : He.DefD := ⟨("_law_come", none), "_law_come", "_law_come", defArgs s_law_come, defBody s_law_come, defScope s_law_come, [], []⟩
def d_law_shut_ways : He.DefD := ⟨("_law_shut_ways", none), "_law_shut_ways", "_law_shut_ways", defArgs s_law_shut_ways, defBody s_law_shut_ways, defScope s_law_shut_ways, [], []⟩
def d_law_ways : He.DefD := ⟨("_law_ways", none), "_law_ways", "_law_ways", defArgs s_law_ways, defBody s_law_ways, defScope s_law_ways, [], []⟩
def d_law_keys : He.DefD := ⟨("_law_keys", none), "_law_keys", "_law_keys", defArgs s_law_keys, defBody s_law_keys, defScope s_law_keys, [], []⟩
def d_law_least_rows : He.DefD := ⟨("_law_least_rows", none), "_law_least_rows", "_law_least_rows", defArgs s_law_least_rows, defBody s_law_least_rows, defScope s_law_least_rows, [], []⟩
def d_law_cheaper : He.DefD := ⟨("_law_cheaper", none), "_law_cheaper", "_law_cheaper", defArgs s_law_cheaper, defBody s_law_cheaper, defScope s_law_cheaper, [], []⟩
def d_law_tables : He.DefD := ⟨("_law_tables", none), "_law_tables", "_law_tables", defArgs s_law_tables, defBody s_law_tables, defScope s_law_tables, [], []⟩
def d_law_below : He.DefD := ⟨("_law_below", none), "_law_below", "_law_below", defArgs s_law_below, defBody s_law_below, defScope s_law_below, [], []⟩
def d_law : He.DefD := ⟨("law", none), "law", "law", defArgs s_law, defBody s_law, defScope s_law, [], []⟩
def hFn : List He.DefD := [d_pair_worth, d_stack_worth, d_is_string, d_need_string, d_both_of, d_may_pair, d_row_keys, d_told_loops, d_within_ways, d_shut_ways, d_one_ways, d_two_ways, d_open_ways, d_ways_of, d_come_to, d_is_worth, d_is_row, d_is_no_more, d_lets_bounds, d_least_of, d_filling_order, d_known_rows, d_table_of, d_law_pen, d_law_draw, d_law_pick, d_law_worth, d_law_rules, d_law_writ, d_law_fits, d_law_listed, d_law_straight, d_law_loop, d_law_shut, d_law_whole, d_law_come, d_law_shut_ways, d_law_ways, d_law_keys, d_law_least_rows, d_law_cheaper, d_law_tables, d_law_below, d_law]
def hFa : List He.Fa := [.glo "pair_worth", .glo "stack_worth", .glo "is_string", .glo "need_string", .glo "both_of", .glo "may_pair", .glo "row_keys", .glo "told_loops", .glo "within_ways", .glo "shut_ways", .glo "one_ways", .glo "two_ways", .glo "open_ways", .glo "ways_of", .glo "come_to", .glo "is_worth", .glo "is_row", .glo "is_no_more", .glo "lets_bounds", .glo "least_of", .glo "filling_order", .glo "known_rows", .glo "table_of", .glo "_law_pen", .glo "_law_draw", .glo "_law_pick", .glo "_law_worth", .glo "_law_rules", .glo "_law_writ", .glo "_law_fits"] ++ [.glo "_law_listed", .glo "_law_straight", .glo "_law_loop", .glo "_law_shut", .glo "_law_whole", .glo "_law_come", .glo "_law_shut_ways", .glo "_law_ways", .glo "_law_keys", .glo "_law_least_rows", .glo "_law_cheaper", .glo "_law_tables", .glo "_law_below", .glo "law", .free "len", .free "dict", .free "isinstance", .free "all", .free "range", .free "sorted", .free "list", .free "zip", .free "sum", .free "tuple", .free "int", .free "bool", .free "str", .free "min", .free "max", .free "abs", .int "MOST_PLACES" 12, .glo "LOOPS"]
def loopsV : List He.Dv := [.str "stacked", .str "inner", .str "inner free", .str "forked", .str "branch", .str "fork free", .str "lone", .str "lone free", .str "open"]
def hEx (K : PySem.W.Frag) : Bool := He.tupB K "LOOPS" loopsV
def hTf : List He.Defn := [("filling_order", none)]
abbrev HR : PySem.W.OpenRow := PySem.W.OpenLaw.row PySem.Challenge.rw_pairfolds_k20_whole_no_folding_below_any
abbrev hHk : PySem.W.Hook := He.hookX 4 hFa hFn [] hTf hEx
def hOb (s : PySem.W.SharedT) : He.AlX := He.obsX 4 hFa hFn [] hTf hEx (HandSHeadRun.getT s)
theorem hOb_eq (s : PySem.W.SharedT) : hOb s = hHk.obs s.abs := He.obsX_eq (HandSHeadRun.getT_eq s)
def hLoose : List Str := (["FoldError", "NoString", "LOOPS", "pair_worth", "stack_worth", "MOST_PLACES", "is_string", "need_string", "both_of", "may_pair", "row_keys", "told_loops", "within_ways", "shut_ways", "one_ways", "two_ways", "open_ways", "ways_of", "come_to", "is_worth", "is_row", "is_no_more", "lets_bounds", "least_of", "filling_order", "known_rows", "table_of", "_law_pen", "_law_draw", "_law_pick"] : List Str) ++ (["_law_worth", "_law_rules", "_law_writ", "_law_fits", "_law_listed", "_law_straight", "_law_loop", "_law_shut", "_law_whole", "_law_come", "_law_shut_ways", "_law_ways", "_law_keys", "_law_are_rows", "_law_are_bounds", "_law_least_rows", "_law_cheaper", "_law_tables", "_law_below"] : List Str)
theorem hRun (w : World) : HandSHeadRun.RunEq HR (PySem.W.view HR.prog [55]) hHk hOb 3000 hLoose w := by
  intro os
  kernel_rfl
end PF
-- part PfRulesA
set_option Elab.async false
set_option linter.all false
set_option maxRecDepth 100000
set_option maxHeartbeats 4000000
/-! own rules: tuples whose object is known, dict(..) of them, dict(..) of pairs whose first is a tuple -/
namespace PF
open PySem PySem.Spec PyProof.Rows L2
/-- at a stands a tuple without a dict of its own, known to the object -/
def TupF (H : Hp) (a : Addr) (xs : List V) : Prop := ∃ o : Obj, o.dict = none ∧ H a = some (.frz o (.tup xs))
theorem TupF.sq {K : PySem.W.Frag} {H : Hp} {a : Addr} {xs : List V} (h : TupF H a xs) : SqT K H a xs := by
  obtain ⟨o, _, e⟩ := h
  exact .inl (.inr ⟨o, e⟩)
section
variable {X : Cx}
/-- a written tuple, its object known -/
def tTupF (t : TA) : TE := fun σ H Q => t σ H fun xs H1 => xs.length ≤ sizeLine ∧ ∀ p o, H1 p = none → o.dict = none → Q (.ref p) (upd H1 p (.frz o (.tup xs)))
theorem pe_tupF {es : List Expr} {x1} {pos : Pos} {t : TA} (h : PA X es t) : PE X (.Tuple es x1 pos) (tTupF t) := by
  refine ⟨fun pins s σ H Q I hq => ?_⟩
  refine wpAny_Tuple_spliced (thn (h.run pos pins s σ H _ I hq) fun us s1 hz => ?_)
  obtain ⟨xs, H1, I1, r, z, q⟩ := hz
  refine ⟨r.length ▸ z, ?_⟩
  have gt : (s1.heap.push { cls := .type "tuple", data := .seq us.toArray }).get? s1.heap.objs.size = some { cls := .type "tuple", data := .seq us.toArray } := Heap.get?_push_size _ rfl
  have new : ObjOk X.prog X.w (upd H1 s1.heap.objs.size (.frz { cls := .type "tuple", data := .seq us.toArray } (.tup xs))) (s1.heap.push { cls := .type "tuple", data := .seq us.toArray }) s1.heap.objs.size (.frz { cls := .type "tuple", data := .seq us.toArray } (.tup xs)) :=
    ⟨gt, z, us, r, ⟨_, gt, rfl, _, rfl⟩⟩
  exact ⟨.ref _, _, I1.laid (t' := s1.toks) (fun b u e => Heap.get?_push_of_some _ e) (Nat.le_refl _) new, rfl, q _ _ (I1.hok.fresh (Nat.le_refl _)) rfl⟩
/-- tuple(a list), its object known -/
theorem call_tupleF : CallR X (.type "tuple") (fun xs H Q => ∃ p ys, xs = [.ref p] ∧ SqL X.K H p ys ∧ ∀ l o, H l = none → o.dict = none → Q (.ref l) (upd H l (.frz o (.tup ys)))) := by
  intro pins s σ H xs us Q I r h
  obtain ⟨p, ys, rfl, hq, q⟩ := h
  obtain ⟨u, rfl, rx⟩ := vals1 r
  cases rx
  obtain ⟨its, r', pl, hz⟩ := I.list hq
  have hlen := r'.length
  refine call_tuple_list pl.isList (fun h' kp => ?_) (by rw [List.size_toArray, ← hlen]; exact hz)
  have I1 : Inv X pins σ H { s with heap := h' } := I.kept (t' := s.toks) kp
  have gt : (h'.push { cls := .type "tuple", data := .seq its.toArray }).get? h'.objs.size = some { cls := .type "tuple", data := .seq its.toArray } := Heap.get?_push_size _ rfl
  have new : ObjOk X.prog X.w (upd H h'.objs.size (.frz { cls := .type "tuple", data := .seq its.toArray } (.tup ys))) (h'.push { cls := .type "tuple", data := .seq its.toArray }) h'.objs.size (.frz { cls := .type "tuple", data := .seq its.toArray } (.tup ys)) :=
    ⟨gt, hz, its, r', ⟨_, gt, rfl, _, rfl⟩⟩
  exact ⟨.ref _, _, I1.laid (t' := s.toks) (fun b o e => Heap.get?_push_of_some _ e) (Nat.le_refl _) new, rfl, q _ _ (I1.hok.fresh (Nat.le_refl _)) rfl⟩
theorem plain_tup {pins : List (Addr × Obj)} {σ : L2.St} {H : Hp} {s : Shared} {a : Addr} {xs : List V} (I : Inv X pins σ H s) (h : TupF H a xs) :
    ∃ its : List Value, Vals xs its ∧ PlainSeq "tuple" s.heap a its.toArray ∧ xs.length ≤ sizeLine := by
  obtain ⟨o, hd, e⟩ := h
  obtain ⟨e1, z, its, r, o', e2, hc, n, hs⟩ := I.hok a _ e
  rw [e1] at e2
  cases e2
  exact ⟨its, r, ⟨o, n, e1, hc, hd, hs⟩, z⟩
theorem plain_lst {pins : List (Addr × Obj)} {σ : L2.St} {H : Hp} {s : Shared} {a : Addr} {xs : List V} (I : Inv X pins σ H s) (h : SqL X.K H a xs) :
    ∃ its : List Value, Vals xs its ∧ PlainSeq "list" s.heap a its.toArray ∧ xs.length ≤ sizeLine := by
  obtain ⟨its, r, ⟨o, n, e1, hc, hd, hs⟩, z⟩ := I.list h
  exact ⟨its, r, ⟨o, n, e1, hc, hd, hs⟩, z⟩
/-- the pairs of a dict(..) by ints and texts -/
theorem pairs_key {pins : List (Addr × Obj)} {σ : L2.St} {H : Hp} {s : Shared} (I : Inv X pins σ H s) : ∀ {ps : List Addr} {kvs : List (Key × V)}, Paired (fun p kv => SqT X.K H p [kV kv.1, kv.2]) ps kvs →
    ∃ prs : List (Key × Value), ∃ raw : List (Value × Value), KV kvs prs ∧ prs.length = ps.length ∧ raw.length = ps.length ∧
      (∀ (j : Nat) (k v : Value), raw[j]? = some (k, v) → ∃ b, ps[j]? = some b ∧ s.heap.IsTuple b #[k, v]) ∧ ∀ (j : Nat) (k v : Value), raw[j]? = some (k, v) → ∃ q, prs[j]? = some (q, v) ∧ keyIs q k = true
  | _, _, .nil => ⟨[], [], .nil, rfl, rfl, fun j k v e => by simp at e, fun j k v e => by simp at e⟩
  | _, _, .cons (a := p) (b := kv) h t => by
    obtain ⟨prs, raw, r, h1, h2, h3, h4⟩ := pairs_key I t
    obtain ⟨its, rv, ht, _⟩ := I.tuple h
    obtain ⟨u, y, rfl, ru, ry⟩ := vals2 rv
    refine ⟨(kv.1, y) :: prs, (u, y) :: raw, .cons ⟨rfl, ry⟩ r, by simp [h1], by simp [h2], fun j k v e => ?_, fun j k v e => ?_⟩
    · cases j with
      | zero => cases e; exact ⟨p, rfl, ht⟩
      | succ j => exact h3 j k v e
    · cases j with
      | zero => cases e; exact ⟨kv.1, rfl, kV_is (P := X.prog) (w := X.w) ru⟩
      | succ j => exact h4 j k v e
/-- dict(a tuple of pairs) -/
theorem call_dictTup (hcalm : X.calm = true) : CallR X (.type "dict") (fun xs H Q => ∃ (a : Addr) (ps : List Addr) (kvs : List (Key × V)), xs = [.ref a] ∧ TupF H a (ps.map V.ref) ∧ Paired (fun p kv => SqT X.K H p [kV kv.1, kv.2]) ps kvs ∧
    ∀ d, H d = none → Q (.ref d) (upd H d (.dK (mergeK [] kvs)))) := by
  intro pins s σ H xs us Q I r q
  obtain ⟨a, ps, kvs, rfl, hT, hp, q⟩ := q
  obtain ⟨u, rfl, rx⟩ := vals1 r
  cases rx
  obtain ⟨its, rv, pl, hz⟩ := plain_tup I hT
  obtain rfl := refs_at rv
  obtain ⟨prs, raw, rel, h1, h2, h3, h4⟩ := pairs_key I hp
  have PI' : PairItems s.heap (ps.map Value.ref).toArray (fun j => ps.getD j 0) raw := by
    refine ⟨by simp [h2], fun j k v e => ?_⟩
    obtain ⟨b, hb, ht⟩ := h3 j k v e
    have hg : ps.getD j 0 = b := by rw [List.getD_eq_getElem?_getD, hb]; rfl
    show _ ∧ PairAt s.heap (ps.getD j 0) k v
    rw [hg]
    exact ⟨by simp [hb, hg], .inl ht⟩
  have hzl : raw.length ≤ sizeLine := by
    rw [h2]
    rw [List.length_map] at hz
    exact hz
  refine PySem.call_dict_pairs (knd := mixKind X.prog X.w) (kvs := prs) (PairArg.tuple a (ps.map Value.ref).toArray (fun j => ps.getD j 0) raw) (I.ok.hd hcalm) ⟨pl, PI'⟩ ⟨by rw [h1, h2], fun i key v e => ?_⟩ hzl fun h' tk hd' hk => ?_
  · obtain ⟨q', e1, e2⟩ := h4 i key v e
    exact ⟨q', e1, e2⟩
  · have hm : (s.heap.objs.size == sysModules) = false := beq_eq_false_iff_ne.mpr (Nat.ne_of_gt I.big)
    have hlen : (mergeK [] kvs).length ≤ sizeLine := by
      have m1 := length_mergeK kvs []
      have m2 := rel.length
      rw [List.length_nil] at m1
      omega
    have new : ObjOk X.prog X.w (upd H s.heap.objs.size (.dK (mergeK [] kvs))) h' s.heap.objs.size (.dK (mergeK [] kvs)) := ⟨hlen, hm, merged [] prs, KV.merge rel .nil, hd'⟩
    exact ⟨.ref _, _, I.laid (t' := tk) (fun b o e => hk b o (by simp) e) (Nat.le_refl _) new, rfl, q _ (I.hok.fresh (Nat.le_refl _))⟩
/-- one pair of a dict(..) by tuples: the key's place, the key, the worth -/
structure TEnt where
  b : Addr
  k : List Key
  v : V
def TEntAt (K : PySem.W.Frag) (H : Hp) (p : Addr) (e : TEnt) : Prop := SqT K H p [.ref e.b, e.v] ∧ H e.b = some (.tup (e.k.map kV))
theorem pairs_tup {pins : List (Addr × Obj)} {σ : L2.St} {H : Hp} {s : Shared} (I : Inv X pins σ H s) : ∀ {ps : List Addr} {es : List TEnt}, Paired (TEntAt X.K H) ps es →
    ∃ xs : List (List Key × Addr × Value), KT H (es.map fun e => (e.k, e.v)) xs ∧ xs.length = ps.length ∧ xs.map (·.1) = es.map (·.k) ∧
      ∀ (j : Nat) (x : List Key × Addr × Value), xs[j]? = some x → ∃ b, ps[j]? = some b ∧ s.heap.IsTuple b #[.ref x.2.1, x.2.2]
  | _, _, .nil => ⟨[], .nil, rfl, rfl, fun j x e => by simp at e⟩
  | _, _, .cons (a := p) (b := e) h t => by
    obtain ⟨xs, r, h1, h2, h3⟩ := pairs_tup I t
    obtain ⟨its, rv, ht, _⟩ := I.tuple h.1
    obtain ⟨u, y, rfl, ru, ry⟩ := vals2 rv
    cases (show u = Value.ref e.b from ru)
    refine ⟨(e.k, e.b, y) :: xs, .cons ⟨rfl, h.2, ry⟩ r, by simp [h1], by simp [h2], fun j x ex => ?_⟩
    cases j with
    | zero => cases ex; exact ⟨p, rfl, ht⟩
    | succ j => exact h3 j x ex
theorem stored_nodup : ∀ (ps xs : List (List Key × Addr × Value)), ((xs ++ ps).map (·.1)).Nodup → storedAllH xs ps = xs ++ ps
  | [], xs, _ => by simp [storedAllH]
  | p :: r, xs, nd => by
    have hn : atKey xs p.1 = none := by
      unfold atKey
      rw [Option.map_eq_none_iff, List.find?_eq_none]
      intro x hx hd
      have e : x.1 = p.1 := of_decide_eq_true hd
      rw [List.map_append, List.nodup_append] at nd
      exact nd.2.2 x.1 (List.mem_map.mpr ⟨x, hx, rfl⟩) p.1 (by simp) e
    have e : storedAllH xs (p :: r) = storedAllH (storedH xs p.1 p.2.1 p.2.2) r := rfl
    rw [e, storedH_new hn, stored_nodup r _ (by simpa using nd)]
    simp
/-- dict(a list of pairs), the keys tuples of ints and texts, each once -/
theorem call_dictLT (hcalm : X.calm = true) (hu : X.A.units + 3 < cLine) : CallR X (.type "dict") (fun xs H Q => ∃ (a : Addr) (ps : List Addr) (es : List TEnt), xs = [.ref a] ∧ SqL X.K H a (ps.map V.ref) ∧ Paired (TEntAt X.K H) ps es ∧ (es.map (·.k)).Nodup ∧
    ∀ d, H d = none → Q (.ref d) (upd H d (.dT (es.map fun e => (e.k, e.v))))) := by
  intro pins s σ H xs us Q I r q
  obtain ⟨a, ps, es, rfl, hL, hp, nd, q⟩ := q
  obtain ⟨u, rfl, rx⟩ := vals1 r
  cases rx
  obtain ⟨its, rv, pl, hz⟩ := plain_lst I hL
  obtain rfl := refs_at rv
  obtain ⟨xs, rel, h1, h2, h3⟩ := pairs_tup I hp
  rw [List.length_map] at hz
  have PI' : PairItems s.heap (ps.map Value.ref).toArray (fun j => ps.getD j 0) (xs.map fun x => (Value.ref x.2.1, x.2.2)) := by
    refine ⟨by simp [h1], fun j k v e => ?_⟩
    rw [List.getElem?_map] at e
    obtain ⟨x, hx, e⟩ := Option.map_eq_some_iff.mp e
    cases e
    obtain ⟨b, hb, ht⟩ := h3 j x hx
    have hg : ps.getD j 0 = b := by rw [List.getD_eq_getElem?_getD, hb]; rfl
    show _ ∧ PairAt s.heap (ps.getD j 0) _ _
    rw [hg]
    exact ⟨by simp [hb, hg], .inl ht⟩
  have key : ∀ x ∈ xs, H x.2.1 = some (.tup (x.1.map kV)) := by
    have all : ∀ {l : List (List Key × V)} {m : List (List Key × Addr × Value)}, KT H l m → ∀ x ∈ m, H x.2.1 = some (.tup (x.1.map kV)) := by
      intro l m q
      induction q with
      | nil => intro x hx; cases hx
      | @cons p q ps qs hq t ih =>
        intro x hx
        rcases List.mem_cons.mp hx with rfl | hx
        · rw [← hq.1]; exact hq.2.1
        · exact ih x hx
    exact all rel
  have hzx : (xs.map fun x => (Value.ref x.2.1, x.2.2)).length ≤ sizeLine := by
    rw [List.length_map, h1]
    exact hz
  refine PySem.call_dict_pairsH (knd := tupleKind (mixKind X.prog X.w)) (ps := xs) (PairArg.list a (ps.map Value.ref).toArray (fun j => ps.getD j 0) (xs.map fun x => (Value.ref x.2.1, x.2.2))) (I.ok.hd hcalm) ?room ⟨pl, PI'⟩
    ⟨by rw [List.length_map], fun i k v e => ?_⟩ (fun h' hk x hx => ?_) hzx fun h' tk hd' hk => ?_
  case room => exact tupleKind_room_in1 (A := X.A.in1) (by show X.A.units + 1 + 1 < cLine; omega)
  · rw [PairRel, List.getElem?_map] at e
    obtain ⟨x, hx, e⟩ := Option.map_eq_some_iff.mp e
    cases e
    exact ⟨x.1, x.2.1, hx, rfl⟩
  · have I2 : HOk X.prog X.w H s.heap := I.hok
    obtain ⟨_, its2, r2, o2, g1, g2, n2, g3⟩ := (show ObjOk X.prog X.w H s.heap x.2.1 (.tup (x.1.map kV)) from I2 _ _ (key x hx))
    have g1' : h'.get? x.2.1 = some o2 := hk _ _ (Nat.ne_of_lt (Heap.lt_size g1)) (by simp) g1
    exact ⟨o2, its2.toArray, n2, g1', g2, g3, by simpa using items_are r2⟩
  · have hm : (s.heap.objs.size == sysModules) = false := beq_eq_false_iff_ne.mpr (Nat.ne_of_gt I.big)
    have nd' : ((([] : List (List Key × Addr × Value)) ++ xs).map (·.1)).Nodup := by
      rw [List.nil_append, h2]
      exact nd
    rw [stored_nodup xs [] nd', List.nil_append] at hd'
    obtain ⟨o, es', ep, g1, g2, g3, g4, _, g5⟩ := hd'
    have hn := I.hok.fresh (Nat.le_refl s.heap.objs.size)
    have hlen : (es.map fun e => (e.k, e.v)).length ≤ sizeLine := by
      rw [rel.length, h1]
      exact hz
    have new : ObjOk X.prog X.w (upd H s.heap.objs.size (.dT (es.map fun e => (e.k, e.v)))) h' s.heap.objs.size (.dT (es.map fun e => (e.k, e.v))) :=
      ⟨hlen, hm, xs, KT.keeps rel (fun b ys eb => by rw [upd_ne (ne_of_none eb hn)]; exact eb), o, es', ep, g1, g2, g3, g4, g5⟩
    exact ⟨.ref _, _, I.laid (t' := tk) (fun b o e => hk b o (by simp) e) (Nat.le_refl _) new, rfl, q _ hn⟩
end
end PF
-- part PfRulesB
set_option Elab.async false
set_option linter.all false
set_option maxRecDepth 100000
set_option maxHeartbeats 4000000
/-! own rules: sorted(..) of lists that read as data, of a dict by tuples -/
namespace PF
open PySem PySem.Spec PyProof.Rows L2
abbrev leD (enc : V → PyData) : V → V → Bool := PySem.W.dataLe false enc
theorem each_vals : ∀ {xs : List V} {us : List Value}, Vals xs us → PySem.W.EachIs (fun u x => RelV x u) us xs
  | _, _, .nil => .nil
  | _, _, .cons r t => .cons r (each_vals t)
theorem vals_each : ∀ {xs : List V} {us : List Value}, PySem.W.EachIs (fun u x => RelV x u) us xs → Vals xs us
  | _, _, .nil => .nil
  | _, _, .cons r t => .cons r (vals_each t)
section
variable {X : Cx}
theorem each_reads {pins : List (Addr × Obj)} {σ : L2.St} {H : Hp} {s : Shared} (I : Inv X pins σ H s) (enc : V → PyData) : ∀ {xs : List V} {us : List Value}, Vals xs us → (∀ x ∈ xs, Dp X.K H x (enc x)) →
    PySem.W.EachIs (fun u x => ∃ as, Reads s.heap u (enc x) as) us xs
  | _, _, .nil, _ => .nil
  | _, _, .cons r t, h => .cons (Dp.reads I _ _ _ (h _ List.mem_cons_self) r) (each_reads I enc t fun x hx => h x (List.mem_cons_of_mem _ hx))
def rSortedDat (K : PySem.W.Frag) : List V → Hp → VK → Prop := fun vs H Q => ∃ (a : Addr) (xs : List V) (enc : V → PyData), vs = [.ref a] ∧ SqL K H a xs ∧ (∀ x ∈ xs, Dp K H x (enc x)) ∧ PySem.W.AllAlike (xs.map enc) ∧ PySem.W.Sortable (xs.map enc) ∧
  (∀ x ∈ xs, (enc x).depth ≤ 60) ∧ ∀ p, H p = none → Q (.ref p) (upd H p (.lst (xs.mergeSort (leD enc))))
/-- sorted(xs), the items alike data: ints, texts, tuples of these -/
theorem cr_sortedDat (hu : X.A.units + 64 < cLine) : CallR X (.builtin "sorted") (rSortedDat X.K) := by
  intro pins s σ H vs us Q I r h
  obtain ⟨a, xs, enc, rfl, hs, hd, hal, hso, hdep, q⟩ := h
  obtain rfl := Vals.ref1 r
  obtain ⟨its, rv, hl, hz⟩ := I.list hs
  refine PySem.W.sorted_data (R := fun u x => RelV x u) (enc := enc) hl.isList (each_vals rv) (each_reads I enc rv hd) hal hso hz (fun b hb => ?_) fun out hlen ho => ?_
  · have := hdep b hb
    omega
  · obtain ⟨ep, he'⟩ := PyProof.Rows.sortedAll_at s.heap its (List.toArray out)
    have hv := vals_each ho
    have hzz : (xs.mergeSort (leD enc)).length ≤ sizeLine := by rw [List.length_mergeSort]; exact hz
    have new : ObjOk X.prog X.w (upd H (s.heap.objs.size + 1) (.lst (xs.mergeSort (leD enc)))) (PyProof.Rows.sortedAll s.heap its (List.toArray out)) (s.heap.objs.size + 1) (.lst (xs.mergeSort (leD enc))) := ⟨hzz, out, ep, hv, he'⟩
    exact ⟨.ref _, _, I.laid (t' := s.toks) (fun _ _ => PyProof.Rows.sortedAll_old) (Nat.le_succ _) new, rfl, q _ (I.hok.fresh (Nat.le_succ _))⟩
def rSortedDT : List V → Hp → VK → Prop := fun vs H Q => ∃ (d : Addr) (kvs : List (List Key × V)) (enc : List Key → PyData), vs = [.ref d] ∧ Rd H d (.dT kvs) ∧ (∀ k ∈ kvs.map (·.1), enc k = .tuple (k.map fun x => match x with | .inl i => .int i | .inr z => .str z)) ∧
  PySem.W.AllAlike (kvs.map fun kv => enc kv.1) ∧ PySem.W.Sortable (kvs.map fun kv => enc kv.1) ∧ (∀ k ∈ kvs.map (·.1), (enc k).depth ≤ 60) ∧
  ∀ (p : Addr) (ys : List (List Key × Addr)), H p = none → (ys.map (·.1)).Perm (kvs.map (·.1)) → (∀ y ∈ ys, H y.2 = some (.tup (y.1.map kV))) → Q (.ref p) (upd H p (.lst (ys.map fun y => V.ref y.2)))
theorem dp_keys {K : PySem.W.Frag} {H : Hp} : ∀ k : List Key, DpAll K H (k.map kV) (k.map fun x => match x with | .inl i => PyData.int i | .inr z => .str z)
  | [] => .nil
  | .inl i :: r => .cons (.int i) (dp_keys r)
  | .inr z :: r => .cons (.str z) (dp_keys r)
/-- sorted(d), the keys tuples of ints and texts -/
theorem cr_sortedDT (hc : X.calm = true) (hu : X.A.units + 64 < cLine) : CallR X (.builtin "sorted") rSortedDT := by
  intro pins s σ H vs us Q I r h
  obtain ⟨d, kvs, enc, rfl, hd, henc, hal, hso, hdep, q⟩ := h
  obtain rfl := Vals.ref1 r
  obtain ⟨z, lo, xs, rel, dd⟩ := dt_rd I.hok hd
  obtain ⟨es, ep, raw, hsz, hent⟩ := dd.raw
  have l1 : kvs.length = xs.length := Paired.length rel
  have hkx : ∀ x ∈ xs, H x.2.1 = some (.tup (x.1.map kV)) := by
    have all : ∀ {l : List (List Key × V)} {m : List (List Key × Addr × Value)}, KT H l m → ∀ x ∈ m, H x.2.1 = some (.tup (x.1.map kV)) := by
      intro l m q
      induction q with
      | nil => intro x hx; cases hx
      | @cons p q ps qs hq t ih =>
        intro x hx
        rcases List.mem_cons.mp hx with rfl | hx
        · rw [← hq.1]; exact hq.2.1
        · exact ih x hx
    exact all rel
  have hk1 : xs.map (·.1) = kvs.map (·.1) := by
    have all : ∀ {l : List (List Key × V)} {m : List (List Key × Addr × Value)}, KT H l m → m.map (·.1) = l.map (·.1) := by
      intro l m q
      induction q with
      | nil => rfl
      | @cons p q ps qs hq t ih =>
        rw [List.map_cons, List.map_cons, ih, hq.1]
    exact all rel
  refine call_function_entry_kw kind_sorted plain_sorted entry_sorted (args_sorted1 _) ?_
  unfold Builtin.«sorted»
  refine wpAny_bind (m := checkCount "sorted" 1 1 _) (wpAny_pure ?_)
  refine wpAny_bind (PySem.W.kdu_collect (A := X.A.in1) (KdlSrc.rawDict (es := es) (ep := ep) lo) (I.ok.hd hc) raw (by omega) fun h' tk acc hk hacc => ?_)
  have ea : acc.toList = (xs.map fun x => x.2.1).map Value.ref := by
    refine List.ext_getElem? fun j => ?_
    rw [List.map_map, List.getElem?_map]
    by_cases hj : j < es.size
    · obtain ⟨y, hy, hkey, _, _⟩ := hent j hj
      have hl : j < acc.toList.length := by rw [Array.length_toList, hacc.1]; exact hj
      obtain ⟨hj2, hv⟩ := hacc.2 j (acc.toList[j]) (by rw [← Array.getElem?_toList]; exact List.getElem?_eq_getElem hl)
      rw [List.getElem?_eq_getElem hl, hv, hy, hkey]
      rfl
    · rw [List.getElem?_eq_none (by rw [Array.length_toList, hacc.1]; omega), List.getElem?_eq_none (by omega)]
      rfl
  have I1 : Inv X pins σ H { s with heap := h', toks := tk } := I.kept hk
  have hv0 : Vals ((xs.map fun x => x.2.1).map V.ref) acc.toList := by rw [ea]; exact vals_refs _
  -- the items as pairs of key and place
  have e0 : PySem.W.EachIs (fun (u : Value) (x : List Key × Addr × Value) => u = .ref x.2.1 ∧ x ∈ xs) acc.toList xs := by
    rw [ea, List.map_map]
    have go : ∀ l : List (List Key × Addr × Value), (∀ x ∈ l, x ∈ xs) → PySem.W.EachIs (fun (u : Value) (x : List Key × Addr × Value) => u = .ref x.2.1 ∧ x ∈ xs) (l.map (Value.ref ∘ fun x => x.2.1)) l := by
      intro l
      induction l with
      | nil => intro _; exact .nil
      | cons x l ih => intro hx; exact .cons ⟨rfl, hx x List.mem_cons_self⟩ (ih fun y hy => hx y (List.mem_cons_of_mem _ hy))
    exact go xs fun _ h => h
  have hmap : xs.map (fun x => enc x.1) = kvs.map fun kv => enc kv.1 := by
    have := congrArg (List.map enc) hk1
    rw [List.map_map, List.map_map] at this
    exact this
  have hmem : ∀ x ∈ xs, x.1 ∈ kvs.map (·.1) := fun x hx => by
    rw [← hk1]
    exact List.mem_map.mpr ⟨x, hx, rfl⟩
  have hl0 : acc.toList.length = xs.length := e0.length
  refine wpAny_bind (wpAny_newList ?_ (by rw [hl0]; omega))
  have hoL : (h'.push (seqObj "list" acc.toList.toArray 0)).get? h'.objs.size = some (seqObj "list" acc.toList.toArray 0) := Heap.get?_push_size _ rfl
  have I2 : Inv X pins σ H { s with heap := h'.push (seqObj "list" acc.toList.toArray 0), toks := tk } := I1.kept (t' := tk) fun b o e => Heap.get?_push_of_some _ e
  have rd : ∀ h3 : Heap, (∀ b o, b ≠ h'.objs.size → (h'.push (seqObj "list" acc.toList.toArray 0)).get? b = some o → h3.get? b = some o) →
      PySem.W.EachIs (fun (u : Value) (x : List Key × Addr × Value) => ∃ as, Reads h3 u (enc x.1) as) acc.toList xs := fun h3 k3 => e0.mono fun u x hx => by
    obtain ⟨rfl, hx⟩ := hx
    have kp : ∀ b o, h'.get? b = some o → h3.get? b = some o := fun b o e => k3 b o (Nat.ne_of_lt (Heap.lt_size e)) (Heap.get?_push_of_some _ e)
    have I3 : Inv X pins σ H { s with heap := h3, toks := tk } := I1.kept (t' := tk) kp
    refine Dp.reads I3 _ (.ref x.2.1) _ ?_ rfl
    rw [henc x.1 (hmem x hx)]
    exact .tup (SqT.of (hkx x hx)) (dp_keys _)
  refine wpAny_bind (wpAny_holding (wpAny_call_entry slot_list_sort ⟨_, hoL, rfl⟩ entry_list_sort ?body (args_list_sort _)))
  case body =>
    refine PySem.W.list_sort_vals (n := 0) (κ := PySem.W.dataKind (PySem.W.sortingHeap (h'.push (seqObj "list" acc.toList.toArray 0)) h'.objs.size acc.toList) (xs.map fun x => enc x.1)) (s := { s with heap := h'.push (seqObj "list" acc.toList.toArray 0), toks := tk }) hoL
      (PySem.W.SortsAt.data (PySem.W.each_map (R := fun v d => ∃ as, Reads (PySem.W.sortingHeap (h'.push (seqObj "list" acc.toList.toArray 0)) h'.objs.size acc.toList) v d as) (fun x : List Key × Addr × Value => enc x.1) (rd _ fun b o hb e => PySem.W.sortingHeap_old hb e)) (by rw [hmap]; exact hal) (by rw [hmap]; exact hso) (fun d' hd' => ?_))
      (by rw [hl0]; omega) ⟨_, rfl, ?_⟩
    · obtain ⟨x, hx, rfl⟩ := List.mem_map.mp hd'
      have := hdep x.1 (hmem x hx)
      show X.A.units + 1 + 1 + _ < cLine
      omega
    · have hout := PySem.W.sortVals_data (h' := PySem.W.sortingHeap (h'.push (seqObj "list" acc.toList.toArray 0)) h'.objs.size acc.toList) (enc := fun x : List Key × Addr × Value => enc x.1) false e0 (rd _ fun b o hb e => PySem.W.sortingHeap_old hb e) (by rw [hmap]; exact hal)
      generalize hso' : PySem.W.sortVals (PySem.W.dataKind (PySem.W.sortingHeap (h'.push (seqObj "list" acc.toList.toArray 0)) h'.objs.size acc.toList) (xs.map fun x => enc x.1)) false acc.toList acc.toList = out at hout
      obtain ⟨ep3, he3⟩ := PyProof.Rows.sortedHeap_at (vs := acc.toList) (out := out.toArray) hoL
      have hperm := List.mergeSort_perm xs (PySem.W.dataLe false fun x : List Key × Addr × Value => enc x.1)
      generalize hms : xs.mergeSort (PySem.W.dataLe false fun x : List Key × Addr × Value => enc x.1) = zs at hout hperm
      have hvz : Vals (zs.map fun x => V.ref x.2.1) out := by
        clear hperm hms hso' he3 ep3
        induction hout with
        | nil => exact .nil
        | cons h t ih => exact .cons (show _ = _ from h.1) ih
      have hzz : (zs.map fun x => V.ref x.2.1).length ≤ sizeLine := by
        rw [List.length_map, hperm.length_eq]
        omega
      have kfin : ∀ b u, h'.get? b = some u → (sortedHeap (h'.push (seqObj "list" acc.toList.toArray 0)) h'.objs.size acc.toList out.toArray).get? b = some u := fun b u e => by
        have hne : b ≠ h'.objs.size := Nat.ne_of_lt (Heap.lt_size e)
        have e2 := Heap.get?_push_of_some (seqObj "list" acc.toList.toArray 0) e
        rw [PyProof.Rows.sortedHeap_old hne (Heap.lt_size e2)]
        exact e2
      have nf : H h'.objs.size = none := I1.hok.fresh (Nat.le_refl _)
      have new : ObjOk X.prog X.w (upd H h'.objs.size (.lst (zs.map fun x => V.ref x.2.1))) (sortedHeap (h'.push (seqObj "list" acc.toList.toArray 0)) h'.objs.size acc.toList out.toArray) h'.objs.size (.lst (zs.map fun x => V.ref x.2.1)) := ⟨hzz, out, ep3, hvz, he3⟩
      have Q' := q h'.objs.size (zs.map fun x => (x.1, x.2.1)) nf (by
        rw [List.map_map, ← hk1]
        exact (hperm.map _)) (fun y hy => by
        obtain ⟨x, hx, rfl⟩ := List.mem_map.mp hy
        exact hkx x (hperm.mem_iff.mp hx))
      rw [List.map_map] at Q'
      exact wpAny_pure ⟨_, rfl, .ref _, _, I1.laid (t' := tk) kfin (Nat.le_refl _) new, rfl, Q'⟩
end
end PF
-- part PfRulesC
set_option Elab.async false
set_option linter.all false
set_option maxRecDepth 100000
set_option maxHeartbeats 4000000
/-! own rules: sorted(xs, key=lambda x: a tuple of three ints) -/
namespace PF
open PySem PySem.Spec PyProof.Rows L2 LamX NdefX
section
variable {X : Cx} {pins : List (Addr × Obj)} {σ : L2.St} {H : Hp} {s : Shared} {h' : Heap}
/-- two untracked records of ours have turned -/
theorem turned2 {t' : Nat} {a b : Addr} (I : Inv X pins σ H s) (k : ∀ c o, c ≠ a → c ≠ b → s.heap.get? c = some o → h'.get? c = some o) (fa : FpOk X pins H a) (fb : FpOk X pins H b) : Inv X pins σ H { s with heap := h', toks := t' } := by
  have fp : ∀ c ∈ [a, b], FpOk X pins H c := fun c hc => by
    rcases List.mem_cons.mp hc with rfl | hc
    · exact fa
    · rw [List.mem_singleton.mp hc]; exact fb
  have out : ∀ c, c ∉ [a, b] → c ≠ a ∧ c ≠ b := fun c hc => ⟨fun e => hc (by simp [e]), fun e => hc (by simp [e])⟩
  have trk : ∀ c u, H c = some u → c ≠ a ∧ c ≠ b := fun c u e => ⟨ne_of_none e fa.1, ne_of_none e fb.1⟩
  have kp : ∀ c o, c ∉ [a, b] → s.heap.get? c = some o → h'.get? c = some o := fun c o hc e => k c o (out c hc).1 (out c hc).2 e
  refine I.step (g' := s.gens) (d' := s.drawn) (ch := [a, b]) (fun c hc => ?_) (fun c o _ _ hc e _ => kp c o hc e) (fun c o _ _ hc e _ => ⟨o.slots, kp c o hc e⟩) (fun _ _ _ _ n => n) (fun c o hc e => ⟨o, kp c o hc e⟩)
    (fun _ _ e => e) (fun _ _ _ e => e) (fun c ps e => ⟨#[], by simp [e]⟩) (fun m hm => ?_) (fun c u e => ?_) I.bare
  · obtain ⟨_, f2, _, f4, f5, f6⟩ := fp c hc
    exact ⟨f4, f2, f5, f6⟩
  · obtain ⟨o, es, ep, ho, r⟩ := hm
    exact ⟨o, es, ep, k _ o (Ne.symm fa.2.1) (Ne.symm fb.2.1) ho, r⟩
  · refine (I.hok c u e).stay (fun d v hd q => ?_) (fun _ q => q) fun _ _ q => q
    rcases hd with rfl | hd
    · exact k d v (trk d u e).1 (trk d u e).2 q
    · exact k d v (trk d _ hd).1 (trk d _ hd).2 q
/-- an untracked object of ours is tracked from now on -/
theorem adopt {a : Addr} {o : HO} (I : Inv X pins σ H s) (fa : FpOk X pins H a) (hs : X.s_0.heap.objs.size ≤ a) (new : ObjOk X.prog X.w (upd H a o) s.heap a o) : Inv X pins σ (upd H a o) s := by
  have hn := fa.1
  have na : ∀ c u, H c = some u → c ≠ a := fun c u e => ne_of_none e hn
  have at_ : ∀ c u, H c = some u → upd H a o c = some u := fun c u e => by rw [upd_ne (na c u e)]; exact e
  refine ⟨I.ok, I.os, I.bare, ⟨I.base.keep, I.base.slot, fun b ob e n hx => ?_, I.base.there, fun b xs e => at_ b _ (I.base.tups b xs e), fun b ob u e => at_ b _ (I.base.frzs b ob u e), fun b ps e => ?_⟩, I.loc, I.cell, ?_, fun x c e => ?_, fun p hp => ?_, fun b u e => ?_, I.len⟩
  · have hne : b ≠ a := fun z => by
      have := Heap.lt_size e
      rw [z] at this
      exact absurd (Nat.lt_of_lt_of_le this hs) (Nat.lt_irrefl _)
    rw [upd_ne hne]
    exact I.base.free b ob e n hx
  · obtain ⟨more, e2⟩ := I.base.tbls b ps e
    exact ⟨more, at_ b _ e2⟩
  · rw [upd_ne (Ne.symm fa.2.1)]
    exact I.free
  · rw [upd_ne (fa.2.2.2.2.1 x c e)]
    exact I.freeC x c e
  · obtain ⟨e, n, ne, nf, d⟩ := I.pin p hp
    refine ⟨e, ?_, ne, nf, d⟩
    rw [upd_ne (fa.2.2.2.2.2 p hp)]
    exact n
  · by_cases hb : b = a
    · subst hb
      rw [upd_same] at e
      cases e
      exact new
    · rw [upd_ne hb] at e
      exact (I.hok b u e).stay (fun c v _ q => q) (fun c q => at_ c _ q) fun c xs q => at_ c _ q
end
/-- a lambda's call, over the layer -/
theorem run_lam {CX : CXT} {P : Program} {w : World} {K : PySem.W.Frag} {mg : Str → Option Value} {base : Heap} {N ps fr : List Str} {F : NF} {f : Addr} {A : Around} {outer : List Env} {s : Shared} {H : Hp} {Q : VK} {E : XK} {us : List Value} {vs : List V} {ws : List (Option V)} {k : Nat}
    {body : Expr} {pm ctv : Value} {tb : TE} (S : NScope N ps fr F.scope) (ho : s.heap.get? f = some (PySem.W.kla_obj F.name F.qual F.params body F.scope F.cl pm F.c ctv)) (hc : H F.c = some (CodeO F.c F.qual)) (C : CellsAt F.cl fr ws s.heap H) (e0 : Env0 P w K mg base A outer s H)
    (r : Vals vs us) (hl : vs.length = ps.length) (hb : bindArgs (PySem.W.kla_fn F.name F.qual F.params body F.scope F.cl pm (.ref F.c) ctv) ⟨us, []⟩ = pure (ps.zip us)) (hr : Room (k + 1) A)
    (hbody : Room k (A.deeper (envF F f s.heap.objs.size)) → PE (ncx CX P w K mg base N F f A outer s H E) body tb) (q : tb (startF N vs ws) H Q) :
    codeAny (model P w) A (.call (.ref f) ⟨us, []⟩) (CR CX outer P w H s Q E) s := by
  have lim : s.heap.NoLimit := e0.mod.nolimit.keeps fun b o e => (e0.bs b o e).1
  refine PySem.W.kla_callFunE hr.depth ho rfl S.co S.gen rfl (codeO_at e0.hok hc) ?_
  rw [hb]
  refine wpAny_pure (wpAny_newFunctionEnv S.nocell (fun ⟨n, _⟩ hy => S.par n (List.of_mem_zip hy).1) (fun h₁ hns hsb => ⟨lim.fresh _ hsb, ?_⟩) S.kind)
  show codeAny _ _ (.expr body (envF F f s.heap.objs.size)) _ _
  have kp : ∀ b o, s.heap.get? b = some o → h₁.get? b = some o := fun b o e => hsb.extBut b o (Nat.ne_of_lt (Heap.lt_size e)) (Heap.get?_push_of_some _ e)
  have J : Inv (ncx CX P w K mg base N F f A outer s H E) [] (startF N vs ws) H { s with heap := h₁, toks := s.toks + (ps.zip us).length } := inv_startN S hr.hd e0 hl r C hns kp
  refine PySem.W.kla_codeExpr (wpAny_mono ((hbody (hr.deeper _)).run [] _ _ H Q J q) (fun v s' hq => ?_) fun e s' hq => hq)
  obtain ⟨w', H', J', rv, q'⟩ := hq
  exact ⟨w', H', J'.os, J'.bare, J'.base, J'.hok, rv, q'⟩
/-- a tuple of three ints -/
abbrev I3 := Int × Int × Int
def dat3 (k : I3) : PyData := .tuple [.int k.1, .int k.2.1, .int k.2.2]
def TupI3 (H : Hp) (v : V) (k : I3) : Prop := ∃ t, v = .ref t ∧ H t = some (.tup [.int k.1, .int k.2.1, .int k.2.2])
theorem TupI3.dp {K : PySem.W.Frag} {H : Hp} {v : V} {k : I3} (h : TupI3 H v k) : Dp K H v (dat3 k) := by
  obtain ⟨t, rfl, e⟩ := h
  exact .tup (SqT.of e) (.cons (.int _) (.cons (.int _) (.cons (.int _) .nil)))
theorem alike3 (a b : I3) : PySem.W.alike (dat3 a) (dat3 b) = true := by simp [dat3, PySem.W.alike, PySem.W.alikeAll]
theorem depth3 (a : I3) : (dat3 a).depth = 1 := by simp [dat3, PyData.depth, PyData.depthAll]
def KLoop (X : Cx) (pins : List (Addr × Obj)) (σ : L2.St) (H : Hp) (s : Shared) (a kS : Addr) (e1 : Nat) (xs : List V) (kf : V → I3) (i : Nat) (s' : Shared) : Prop :=
  ∃ (H' : Hp) (kA : Array Value) (ys : List V) (e : Nat), (Inv X pins σ H' s' ∧ ∀ b o, b ≠ a → b ≠ kS → s.heap.get? b = some o → H b = none → b ∉ frs X.stack → s'.heap.get? b = some o ∧ H' b = none) ∧ Same H H' ∧ H' a = none ∧ H' kS = none ∧ s'.heap.get? kS = some (seqObj "list" kA e) ∧ s'.heap.get? a = some (seqObj "list" #[] e1) ∧ Vals ys kA.toList ∧ ys.length = i ∧ ∀ (j : Nat) (y : V), ys[j]? = some y → ∃ x, xs[j]? = some x ∧ TupI3 H' y (kf x)
/-- the loop that asks the keys, and the sort behind it -/
theorem key_loop {X : Cx} {pins : List (Addr × Obj)} {σ : L2.St} {H : Hp} {s : Shared} {f : Value} {A : Around} {a kS : Addr} {e1 : Nat} {xs : List V} {us : List Value} {kf : V → I3} {P : PySem.Fin → Shared → Prop} {E : Value → Shared → Prop}
    (I : Inv X pins σ H s) (hu : A.units + 8 < cLine) (ra : ∀ H', H' a = none → FpOk X pins H' a) (rk : ∀ H', H' kS = none → FpOk X pins H' kS) (hka : kS ≠ a) (na0 : H a = none) (nk0 : H kS = none) (nfa : a ∉ frs X.stack) (nfk : kS ∉ frs X.stack)
    (nk : s.heap.get? kS = some (seqObj "list" #[] 0)) (na : s.heap.get? a = some (seqObj "list" #[] e1)) (rv : Vals xs us) (hZ : us.length ≤ sizeLine)
    (turn : ∀ (x : V) (u : Value) (H' : Hp) (s' : Shared), x ∈ xs → RelV x u → Inv X pins σ H' s' → Same H H' → (∀ b o, b ≠ a → b ≠ kS → s.heap.get? b = some o → H b = none → b ∉ frs X.stack → s'.heap.get? b = some o ∧ H' b = none) → wpAny (model X.prog X.w) A (call f [u]) (fun v s'' => ∃ H'' y, Inv X pins σ H'' s'' ∧ Un (frs X.stack) [] H' H'' s'.heap s''.heap ∧ Same H' H'' ∧ RelV y v ∧ TupI3 H'' y (kf x)) (fun _ _ => False) s')
    (fin : ∀ (H' : Hp) (s' : Shared) (h' : Heap) (tk : Nat) (out : List Value) (c : Nat), Inv X pins σ H' s' → Same H H' → H' a = none → H' kS = none → (∀ b o, b ≠ a → b ≠ kS → s'.heap.get? b = some o → h'.get? b = some o) → h'.get? a = some (seqObj "list" out.toArray c) →
      Vals (xs.mergeSort (PySem.W.dataLe false fun x => dat3 (kf x))) out → P (.done (.ret .none)) { s' with heap := h', toks := tk }) :
    wpAny (model X.prog X.w) A (ksk_rest a f false us.toArray e1 (.ref kS)) P E s := by
  have hlen : xs.length = us.length := rv.length
  unfold ksk_rest
  refine wpAny_bind (wpAny_rule ?_)
  rw [List.forIn_toArray]
  have init : KLoop X pins σ H s a kS e1 xs kf 0 s := ⟨H, #[], [], 0, ⟨I, fun b o _ _ e n _ => ⟨e, n⟩⟩, fun _ _ h => h, na0, nk0, nk, na, .nil, rfl, fun j y e => absurd e (by simp)⟩
  refine wpAny_bind (ksk_fold (KLoop X pins σ H s a kS e1 xs kf) us 0 s init ?step ?done)
  case step =>
    rintro j u s' hu' ⟨H', kA, ys, e, ⟨I', old⟩, sm, a0, k0, gk, ga, rk', ly, hy⟩
    rw [Nat.zero_add] at ly ⊢
    have hj : j < us.length := (List.getElem?_eq_some_iff.mp hu').1
    have hxj : xs[j]? = some (xs[j]'(by omega)) := List.getElem?_eq_getElem (by omega)
    generalize xs[j]'(by omega) = x at hxj
    have hxu : RelV x u := by
      obtain ⟨u', e1, e2⟩ := rv.get hxj
      rw [hu'] at e1
      cases e1
      exact e2
    have hzk : kA.size ≤ us.length := by
      have e1 : ys.length = kA.toList.length := rk'.length
      have e2 : kA.toList.length = kA.size := Array.length_toList
      omega
    refine wpAny_bind (wpAny_attempt (wpAny_mono (turn x u H' s' (List.mem_of_getElem? hxj) hxu I' sm old) (fun v s'' hv => ?_) fun _ _ z => z.elim))
    obtain ⟨H2, y, I2, un, sm2, ry, ty⟩ := hv
    have gk2 := un.keep kS _ gk k0 nfk (by simp)
    have ga2 := un.keep a _ ga a0 nfa (by simp)
    have k2 := un.free kS _ gk k0 (by simp)
    have a2 := un.free a _ ga a0 (by simp)
    have sb := Heap.SameBut.update s''.heap kS (Obj.mapSeq (·.push v))
    obtain ⟨c2, hc2⟩ : ∃ c2, (s''.heap.update kS (Obj.mapSeq (·.push v))).get? kS = some (seqObj "list" (kA.push v) c2) := ⟨_, get?_update_seq gk2 (·.push v)⟩
    refine wpAny_bind (listUpdate_at gk2 rfl ?_ (Nat.le_trans hzk hZ) (by rw [Array.size_push]; omega))
    have I3' : Inv X pins σ H2 { s'' with heap := s''.heap.update kS (Obj.mapSeq (·.push v)), toks := s''.toks } := turned2 I2 (fun c o _ hc e => (sb.2 c hc).trans e) (ra H2 a2) (rk H2 k2)
    refine wpAny_pure ⟨rfl, H2, kA.push v, ys ++ [y], c2, ⟨I3', fun b o h1 h2 e n nf => ?_⟩, fun b o h => sm2 b o (sm b o h), a2, k2, hc2, (sb.2 a hka.symm).trans ga2, ?_, by simp [ly], fun i z hz => ?_⟩
    · obtain ⟨e1, n1⟩ := old b o h1 h2 e n nf
      exact ⟨(sb.2 b h2).trans (un.keep b o e1 n1 nf (by simp)), un.free b o e1 n1 (by simp)⟩
    · rw [Array.toList_push]
      exact rk'.append (.cons ry .nil)
    · by_cases hi : i < ys.length
      · rw [List.getElem?_append_left hi] at hz
        obtain ⟨x', ex, t, et, ht⟩ := hy i z hz
        exact ⟨x', ex, t, et, sm2 _ _ ht⟩
      · rw [List.getElem?_append_right (by omega)] at hz
        have e0 : i - ys.length = 0 := by
          cases hq : i - ys.length with
          | zero => rfl
          | succ m => rw [hq] at hz; simp at hz
        rw [e0] at hz
        have hz : some y = some z := hz
        cases hz
        exact ⟨x, by rw [show i = j by omega]; exact hxj, ty⟩
  case done =>
    rintro s' ⟨H', kA, ys, e, ⟨I', old⟩, sm, a0, k0, gk, ga, rk', ly, hy⟩
    rw [Nat.zero_add] at ly
    have hreads : PySem.W.EachIs (fun v d => ∃ as, Reads s'.heap v d as) kA.toList (xs.map fun x => dat3 (kf x)) := by
      have hyl : ys.length = xs.length := by omega
      have go : ∀ (zs : List V) (vs : List Value) (m : List V), Vals zs vs → zs.length = m.length → (∀ (j : Nat) (y : V), zs[j]? = some y → ∃ x : V, m[j]? = some x ∧ TupI3 H' y (kf x)) → PySem.W.EachIs (fun v d => ∃ as, Reads s'.heap v d as) vs (m.map fun x => dat3 (kf x)) := by
        intro zs
        induction zs with
        | nil => intro vs m r hl _; cases r; cases m with
          | nil => exact .nil
          | cons _ _ => simp at hl
        | cons z zs ih =>
          intro vs m r hl hh
          cases r with
          | cons r1 r2 =>
            cases m with
            | nil => simp at hl
            | cons x m =>
              obtain ⟨x', ex, tz⟩ := hh 0 z rfl
              cases ex
              exact .cons (Dp.reads I' _ _ _ tz.dp r1) (ih _ m r2 (by simpa using hl) fun j y hj => hh (j + 1) y hj)
      exact go ys _ xs rk' hyl hy
    have hal : PySem.W.AllAlike (xs.map fun x => dat3 (kf x)) := PySem.W.AllAlike.of fun a b => alike3 _ _
    have hso : PySem.W.Sortable (xs.map fun x => dat3 (kf x)) := PySem.W.Sortable.tuples fun b => ⟨_, _, rfl⟩
    have hks : kA.size = us.length := by
      have e1 : ys.length = kA.toList.length := rk'.length
      have e2 : kA.toList.length = kA.size := Array.length_toList
      omega
    refine wpAny_bind (listItems_at gk rfl ?_)
    refine PySem.W.keyH_end (κ := PySem.W.dataKind s'.heap (xs.map fun x => dat3 (kf x))) (h₁ := PySem.W.hideAll s'.heap [kS]) (fun b o _ e => PySem.W.of_hideAll [kS] e) (PySem.W.hideAll_none [kS] (by simp)) gk ga hka
      (PySem.W.SortsAt.data hreads hal hso fun d hd => ?_) hks hZ fun h3 tk3 c k3 n3 => ?_
    · obtain ⟨x, _, rfl⟩ := List.mem_map.mp hd
      rw [depth3]
      omega
    · refine fin H' s' h3 tk3 _ c I' sm a0 k0 (fun b o h1 h2 e => k3 b o h1 (PySem.W.hideAll_get [kS] e (by simpa using h2))) n3 ?_
      refine vals_each (PySem.W.keyedOut_each (R := fun u x => RelV x u) (rev := false) (bs := xs) (fun x => dat3 (kf x)) ⟨s'.heap, kA.toList, hal, rfl, hreads⟩ (each_vals rv))
/-- sorted(xs, key=f) -/
theorem sorted_key3 {X : Cx} {pins : List (Addr × Obj)} {σ : L2.St} {H : Hp} {s : Shared} {f l : Addr} {xs : List V} {kf : V → I3} {Q : VK} (I : Inv X pins σ H s) (hu : X.A.units + 64 < cLine) (hl : SqL X.K H l xs)
    (turn : ∀ (x : V) (u : Value) (H' : Hp) (s' : Shared), x ∈ xs → RelV x u → Inv X pins σ H' s' → Same H H' → (∀ b o, s.heap.get? b = some o → H b = none → b ∉ frs X.stack → s'.heap.get? b = some o ∧ H' b = none) →
      wpAny (model X.prog X.w) X.A.in1.in1 (call (.ref f) [u]) (fun v s'' => ∃ H'' y, Inv X pins σ H'' s'' ∧ Un (frs X.stack) [] H' H'' s'.heap s''.heap ∧ Same H' H'' ∧ RelV y v ∧ TupI3 H'' y (kf x)) (fun _ _ => False) s')
    (q : ∀ D H', Same H H' → H D = none → H' D = some (.lst (xs.mergeSort (PySem.W.dataLe false fun x => dat3 (kf x)))) → Q (.ref D) H') :
    wpAny (model X.prog X.w) X.A (call (.builtin "sorted") [.ref l] [(Str.ofString "key", .ref f)]) (EP X pins σ Q) X.xe s := by
  obtain ⟨us, rv, pl, hz⟩ := I.list hl
  have hlen := rv.length
  have hzu : us.length ≤ sizeLine := hlen ▸ hz
  refine PySem.W.sorted_of_sort pl.isList hzu (ksk_s1 _ _) (fun _ => ksk_l1 _ _) fun E' => ?_
  rw [ksk_t1]
  have ho : (PySem.W.copyHeap s.heap us).get? (s.heap.objs.size + 1) = some (seqObj "list" us.toArray 0) := PySem.W.copyHeap_at s.heap us
  obtain ⟨e1, ho1⟩ : ∃ e1, ((PySem.W.copyHeap s.heap us).update (s.heap.objs.size + 1) (Obj.mapSeq fun _ => (#[] : Array Value))).get? (s.heap.objs.size + 1) = some (seqObj "list" #[] e1) := ⟨_, get?_update_seq ho fun _ => #[]⟩
  have szc : s.heap.objs.size + 1 < (PySem.W.copyHeap s.heap us).objs.size := Heap.lt_size ho
  have kold : ∀ b o, s.heap.get? b = some o → (PySem.W.sortingHeap (PySem.W.copyHeap s.heap us) (s.heap.objs.size + 1) us).get? b = some o := fun b o e => PySem.W.sorting_copy_old e
  have I1 : Inv X pins σ H { s with heap := PySem.W.sortingHeap (PySem.W.copyHeap s.heap us) (s.heap.objs.size + 1) us } := I.kept (t' := s.toks) kold
  have na : H (s.heap.objs.size + 1) = none := I.hok.fresh (Nat.le_succ _)
  have fresh : ∀ b, s.heap.objs.size ≤ b → ∀ H', H' b = none → FpOk X pins H' b := fun b hb H' hn => I.fpOk hb hn
  have nfr : ∀ b, s.heap.objs.size ≤ b → b ∉ frs X.stack := fun b hb hm => by
    rcases List.mem_cons.mp (I.stkSub b hm) with e | e
    · have := I.lt
      rw [← e] at this
      exact absurd (Nat.lt_of_lt_of_le this hb) (Nat.lt_irrefl _)
    · exact I.nofs hb e
  generalize hkS : (((PySem.W.copyHeap s.heap us).update (s.heap.objs.size + 1) (Obj.mapSeq fun _ => (#[] : Array Value))).push (seqObj "tuple" us.toArray 0)).objs.size = kS
  have gkS : (PySem.W.sortingHeap (PySem.W.copyHeap s.heap us) (s.heap.objs.size + 1) us).get? kS = some (seqObj "list" #[] 0) := by
    rw [← hkS]
    exact Heap.get?_push_size _ rfl
  have kbig : s.heap.objs.size + 1 < kS := by
    rw [← hkS, size_push', Heap.size_update]
    omega
  have nk : H kS = none := I.hok.fresh (by omega)
  unfold ksk_tree
  refine wpAny_bind (listItems_at ho rfl ?_)
  refine wpAny_bind (listUpdate_at ho rfl ?_ (by rw [List.size_toArray]; exact hzu) (Nat.zero_le _))
  refine wpAny_bind (seqEpoch_at ho1 rfl ?_)
  refine wpAny_bind (wpAny_newTuple ?_ (by show us.length ≤ _; exact hzu))
  refine wpAny_bind (wpAny_newList ?_ (Nat.zero_le _))
  refine wpAny_holding ?_
  rw [show (((PySem.W.copyHeap s.heap us).update (s.heap.objs.size + 1) (Obj.mapSeq fun _ => (#[] : Array Value))).push { cls := Value.type "tuple", data := Data.seq us.toArray }).objs.size = kS from hkS]
  refine key_loop (X := X) (xs := xs) (kf := kf) (s := { s with heap := PySem.W.sortingHeap (PySem.W.copyHeap s.heap us) (s.heap.objs.size + 1) us }) I1 (by show X.A.units + 1 + 1 + 8 < cLine; omega) (fresh _ (Nat.le_succ _)) (fresh _ (by omega)) (Nat.ne_of_gt kbig) na nk (nfr _ (Nat.le_succ _)) (nfr _ (by omega)) gkS
    (Heap.get?_push_of_some _ (Heap.get?_push_of_some _ ho1)) rv hzu (fun x u H' s' hx rx I' sm old => turn x u H' s' hx rx I' sm fun b o e n nf => ?_) fun H' s' h3 tk out c I' sm a0 k0 kp ga hv => ?_
  · have hlt := Heap.lt_size e
    exact old b o (Nat.ne_of_lt (Nat.lt_succ_of_lt hlt)) (Nat.ne_of_lt (Nat.lt_trans (Nat.lt_succ_of_lt hlt) kbig)) (kold b o e) n nf
  · refine ⟨rfl, ?_⟩
    have I2 : Inv X pins σ H' { s' with heap := h3, toks := tk } := turned2 I' kp (fresh _ (Nat.le_succ _) H' a0) (fresh _ (by omega) H' k0)
    have hzz : (xs.mergeSort (PySem.W.dataLe false fun x => dat3 (kf x))).length ≤ sizeLine := by rw [List.length_mergeSort]; exact hz
    have I3' := adopt (a := s.heap.objs.size + 1) (o := .lst (xs.mergeSort (PySem.W.dataLe false fun x => dat3 (kf x)))) I2 (fresh _ (Nat.le_succ _) H' a0) (Nat.le_trans I.sz (Nat.le_succ _)) ⟨hzz, out, c, hv, ga⟩
    refine ⟨.ref _, _, I3', rfl, q _ _ (fun b o h => ?_) na upd_same⟩
    rw [upd_ne (ne_of_none (sm b o h) a0)]
    exact sm b o h
/-- sorted(e, key=lambda prm: body): what is asked of e, of the body at each item, of what follows -/
def tSortK (K : PySem.W.Frag) (P : Addr) (q : Str) (N : List Str) (js : List Nat) (te tb : TE) : TE := fun σ H Q => te σ H fun x H1 => ∃ (a : Addr) (xs : List V) (kf : V → I3), x = .ref a ∧ SqL K H1 a xs ∧ TabS H1 P q ∧
  (∀ x ∈ xs, ∀ H2, ExtN H1 H2 → tb (startF N [x] (js.map (slotAt σ))) H2 fun y H3 => Same H2 H3 ∧ TupI3 H3 y (kf x)) ∧
  ∀ D H2, ExtN H1 H2 → (∀ o, (∀ ps, o ≠ .tbl ps) → H1 D ≠ some o) → TabS H2 P q → H2 D = some (.lst (xs.mergeSort (PySem.W.dataLe false fun x => dat3 (kf x)))) → Q (.ref D) H2
theorem sql_ext {K : PySem.W.Frag} {H H' : Hp} {a : Addr} {xs : List V} (e : ExtN H H') (h : SqL K H a xs) : SqL K H' a xs := by
  rcases h with (h | ⟨o, h⟩) | h
  · exact .inl (.inl (e _ _ h fun ps z => by cases z))
  · exact .inl (.inr ⟨o, e _ _ h fun ps z => by cases z⟩)
  · exact .inr h
theorem pe_sortK {X : Cx} {c P : Addr} {k : Nat} {params : Arguments} {body : Expr} {scope : Scope} {p lpos kpos pos : Pos} {e : Expr} {te tb : TE} {N fr : List Str} {js : List Nat} {prm : Str}
    (hg : Gl X "sorted") (hm : X.mg "sorted" = none) (he : PE X e te) (TB : TabB X.base X.mg c P) (hcode : X.env.code = .ref c) (hdef : defaultsOf params X.env = ([], [])) (S : NScope N [prm] fr scope)
    (hfree : ∀ y ∈ scope.names, y.2 = .free → X.env.scope.names.lookup y.1 = some .cell ∨ X.env.scope.names.lookup y.1 = some .free) (hfr : ∀ y ∈ fr, (y, NameKind.free) ∈ scope.names) (hjs : js.map (fun j => X.N[j]?) = fr.map some)
    (hbind : ∀ (q : Str) (cl : List (Str × Addr)) (pm cv ctv u : Value), bindArgs (PySem.W.kla_fn "<lambda>" q params body scope cl pm cv ctv) ⟨[u], []⟩ = pure [(prm, u)]) (hr : Room (k + 3) X.A)
    (hbody : ∀ (F : NF) (f : Addr) (A : Around) (s : Shared) (H : Hp), F.scope = scope → Room k (A.deeper (envF F f s.heap.objs.size)) → PE (ncx CX0 X.prog X.w X.K X.mg X.base N F f A X.stack s H E0) body tb)
    (hpa : starEach [e] X.env = (false, eval e X.env) :: starEach [] X.env := by rfl) (hpl : (backTo pos (starEach [e] X.env)).any (·.1) = false := by rfl) (hbt : backTo pos (starEach [e] X.env) = (false, eval e X.env) :: backTo pos (starEach [] X.env) := by rfl) :
    PE X (.Call (.Name "sorted" p) [e] [⟨some "key", .Lambda params body scope lpos, kpos⟩] pos) (tSortK X.K P (X.env.qual ++ "<lambda>") N js te tb) := by
  refine ⟨fun pins s σ H Q I h => ?_⟩
  refine wpAny_Call_Name_kw (ld_blt I hg hm (by decide +kernel : bootBuiltins "sorted" = some (.builtin "sorted")) ?_ (by decide) (by decide))
  refine PyProof.Rows.callWith_kw (thn ((pa_cons he pa_nil hpa).run pos pins s σ H (fun vs H1 => match vs with
    | [x] => ∃ (a : Addr) (xs : List V) (kf : V → I3), x = .ref a ∧ SqL X.K H1 a xs ∧ TabS H1 P (X.env.qual ++ "<lambda>") ∧ (∀ x ∈ xs, ∀ H2, ExtN H1 H2 → tb (startF N [x] (js.map (slotAt σ))) H2 fun y H3 => Same H2 H3 ∧ TupI3 H3 y (kf x)) ∧
      ∀ D H2, ExtN H1 H2 → (∀ o, (∀ ps, o ≠ .tbl ps) → H1 D ≠ some o) → TabS H2 P (X.env.qual ++ "<lambda>") → H2 D = some (.lst (xs.mergeSort (PySem.W.dataLe false fun x => dat3 (kf x)))) → Q (.ref D) H2
    | _ => False) I h) fun us s1 hz => ?_) hbt hpl rfl rfl
  · obtain ⟨vs, H1, I1, r1, hz⟩ := hz
    obtain ⟨x, rfl⟩ : ∃ x, vs = [x] := by
      match vs, hz with
      | [x], _ => exact ⟨x, rfl⟩
    obtain ⟨a, xs, kf, rfl, hs, hT, hb, q⟩ := hz
    obtain rfl := Vals.ref1 r1
    have hfr' : ∀ y ∈ scope.names, y.2 = .free → ∃ c, X.env.cells.lookup y.1 = some c := fun y hy e => (hfree y hy e).elim (fun z => I.ok.has _ (.inl z)) fun z => I.ok.has _ (.inr z)
    refine wpAny_evalAll_cons (wpAny_bind (lam_make2 (T := [(P, X.env.qual ++ "<lambda>")]) I1 TB hcode (by simp) (fun p hp _ => by rw [List.mem_singleton.mp hp]) (fun p hp => by rw [List.mem_singleton.mp hp]; exact hT) hdef hfr' fun f c' pm ctv H2 s2 I2 eN T2 hf hfn hfs hco => ?_))
    refine wpAny_bind (wpAny_standAt (wpAny_pure (wpAny_evalAll_nil ?_)))
    show wpAny _ _ (call (.builtin "sorted") [.ref a] [(Str.ofString "key", .ref f)]) _ _ s2
    refine sorted_key3 (kf := kf) I2 hr.units (sql_ext eN hs) (fun y u H3 s3 hy ry I3 sm old => ?_) fun D H3 sm hn hD => ?_
    · have hrm : Room (k + 1) X.A.in1.in1 := hr.in1.in1
      obtain ⟨e3, n3⟩ := old f _ hf hfn hfs
      have ch : CellsAt (cloFrom X.env.cells scope.names []) fr (js.map (slotAt σ)) s3.heap H3 := cells_of I3 (Caps.made I3.ok hfree hfr hjs)
      have ext3 : ExtN H1 H3 := eN.trans (ExtN.of sm)
      have rc := run_lam (CX := CX0) (E := E0) (N := N) (ps := [prm]) (us := [u]) (vs := [y]) (Q := fun z H4 => Same H3 H4 ∧ TupI3 H4 z (kf y)) (F := ⟨"<lambda>", X.env.qual ++ "<lambda>", params, [], scope, cloFrom X.env.cells scope.names [], c'⟩) S e3 (sm _ _ hco) ch I3.env0.in1.in1 (.cons ry .nil) rfl (hbind _ _ _ _ _ _) hrm
        (fun hr' => hbody _ f _ s3 H3 rfl hr') (hb y hy H3 ext3)
      refine wpAny_call (codeAny_mono rc fun r s4 hq => ?_)
      cases r with
      | error e => exact (show False from hq).elim
      | ok fl =>
        cases fl with
        | next => exact False.elim hq
        | brk => exact False.elim hq
        | cont => exact False.elim hq
        | ret v =>
          obtain ⟨z, H4, os, bare, un, hok, rz, sm4, tz⟩ := hq
          obtain ⟨hh, g4, d4, t4, os4⟩ := s4
          obtain rfl : os4 = s3.os := os
          exact ⟨H4, z, I3.call (h' := hh) (g' := g4) (d' := d4) (t' := t4) (ch := []) un hok bare (fun b z => absurd z (by simp)), un, sm4, rz, tz⟩
    · have ext3 : ExtN H1 H3 := eN.trans (ExtN.of sm)
      exact q D H3 ext3 (fun o ho e => by have z := eN D o e ho; rw [hn] at z; cases z) ((T2 (P, _) (by simp)).ext sm) hD
end PF
-- part PfRulesD
set_option Elab.async false
set_option linter.all false
set_option maxRecDepth 100000
set_option maxHeartbeats 4000000
/-! own rules: min(xs, default=d), t.index(x) of a known tuple -/
namespace PF
open PySem PySem.Spec PyProof.Rows L2
theorem lt_ints {prog : Program} {w : World} {A : Around} {E : Value → Shared → Prop} {s : Shared} {a b : Int} {t u : Tok} {Q : Value → Shared → Prop} (h : Q (.bool (decide (a < b))) s) : wpAny (model prog w) A (richCompare .Lt (.int a t) (.int b u)) Q E s := by
  have c := CmpOf.ints_lt (prog := prog) (w := w) (A := A) (P := fun i v => v = if i = 0 then .int a t else .int b u) (fun i => if i = 0 then a else b) fun i v hv => by
    by_cases hi : i = 0
    · exact ⟨t, by rw [hv, if_pos hi, if_pos hi]⟩
    · exact ⟨u, by rw [hv, if_neg hi, if_neg hi]⟩
  exact c 0 1 _ _ s Q E (by simp) (by simp) (by simpa using h)
def IsBest (d : Value) (ms : List Int) (v : Value) : Prop := (ms = [] ∧ v = d) ∨ ∃ m t, v = .int m t ∧ m ∈ ms ∧ ∀ x ∈ ms, m ≤ x
section
variable {prog : Program} {w : World} {A : Around} {R : Result → Shared → Prop} {I S l : Addr} {items : Array Value} {d : Value}
def bestList : Option (Int × Tok) → Array Value
  | none => #[]
  | some (m, t) => #[.int m t, .int m t]
def seen : Option (Int × Tok) → List Int
  | none => []
  | some (m, _) => [m]
theorem min_loopD (hh : A.handled = none) (hlI : l ≠ I) (hSI : S ≠ I) (hSl : S ≠ l) : ∀ (rest : List (Int × Tok)) (i : Nat) (old : Option (Int × Tok)) (c : Nat) (s : Shared), items.size = i + rest.length →
    (∀ (j : Nat) (p : Int × Tok), rest[j]? = some p → items[i + j]? = some (.int p.1 p.2)) → s.heap.IsListIter I l i → s.heap.IsList l items → s.heap.get? S = some { cls := .type "list", dict := none, data := .seq (bestList old) c, slots := #[] } →
    (∀ v h' tk, IsBest d (seen old ++ rest.map (·.1)) v → (∀ b o, b ≠ S → b ≠ I → s.heap.get? b = some o → h'.get? b = some o) → R (.ok (.ret v)) { s with heap := h', toks := tk }) →
    codeAny (model prog w) A (.builtin "min.loop" ⟨[.ref I, .none, .ref S], [("default", d)]⟩) R s := by
  have hname : (toString "min" ++ toString ".loop" : String) = "min.loop" := by decide
  intro rest
  induction rest with
  | nil =>
    intro i old c s hsz hit hI hl hS hR
    refine codeAny_builtin F.entry_min_loop ?_
    rw [Around.under_plainId F.plain_min_loop _]
    show wpAny _ A.in1 (seqItems? (.ref S) >>= _) _ _ s
    refine wpAny_bind (wpAny_seqItems hS rfl ?_)
    show wpAny _ A.in1 (tryCatch (pyNext (.ref I)) _ >>= _) _ _ s
    refine wpAny_bind (wpAny_tryCatch (wpAny_pyNext_list_end (A := A.in1) hh hI hl (Array.getElem?_eq_none (by simpa using Nat.le_of_eq hsz)) fun h' he => ?_))
    cases old with
    | none =>
      show wpAny _ A.in1 (rule _ >>= _) _ _ _
      refine wpAny_bind (wpAny_rule (wpAny_pure ?_))
      exact hR d h' s.toks (.inl ⟨rfl, rfl⟩) fun b o _ hb e => he b o hb e
    | some p =>
      obtain ⟨m, t⟩ := p
      have hS' : h'.get? S = some { cls := .type "list", dict := none, data := .seq #[.int m t, .int m t] c, slots := #[] } := he S _ hSI hS
      show wpAny _ A.in1 (updateSeq S (fun _ => #[]) >>= _) _ _ _
      refine wpAny_bind (wpAny_updateSeq hS' rfl (wpAny_bind (wpAny_letGo (wpAny_pure ?_))))
      exact hR (.int m t) _ s.toks (.inr ⟨m, t, rfl, by simp [seen], by simp [seen]⟩) fun b o h1 h2 e => (Heap.get?_update_other _ _ (Ne.symm h1)).trans (he b o h2 e)
  | cons p rest ih =>
    intro i old c s hsz hit hI hl hS hR
    obtain ⟨n, tn⟩ := p
    have hit0 : items[i]? = some (.int n tn) := by
      have := hit 0 (n, tn) rfl
      simpa using this
    refine codeAny_builtin F.entry_min_loop ?_
    rw [Around.under_plainId F.plain_min_loop _]
    show wpAny _ A.in1 (seqItems? (.ref S) >>= _) _ _ s
    refine wpAny_bind (wpAny_seqItems hS rfl ?_)
    show wpAny _ A.in1 (tryCatch (pyNext (.ref I)) _ >>= _) _ _ s
    refine wpAny_bind (wpAny_tryCatch (wpAny_pyNext_list_item (x := .int n tn) hI hl hit0 fun h1 hI1 hs1 => ?_))
    have hl1 : h1.IsList l items := hl.extBut hs1.extBut hlI
    have hS1 := hs1.extBut S _ hSI hS
    have next : ∀ (nw : Option (Int × Tok)) (s2 : Shared) (c2 : Nat) (h2 : Heap), s2.heap = h2 → h2.IsListIter I l (i + 1) → h2.IsList l items → h2.get? S = some { cls := .type "list", dict := none, data := .seq (bestList nw) c2, slots := #[] } →
        (∀ v h' tk, IsBest d (seen nw ++ rest.map (·.1)) v → (∀ b o, b ≠ S → b ≠ I → h2.get? b = some o → h'.get? b = some o) → R (.ok (.ret v)) { s2 with heap := h', toks := tk }) →
        codeAny (model prog w) A (.builtin "min.loop" ⟨[.ref I, .none, .ref S], [("default", d)]⟩) R s2 := fun nw s2 c2 h2 e1 e2 e3 e4 e5 => by
      subst e1
      refine ih (i + 1) nw c2 s2 (by rw [hsz, List.length_cons]; omega) (fun j p hj => ?_) e2 e3 e4 e5
      have := hit (j + 1) p hj
      rw [show i + 1 + j = i + (j + 1) by omega]
      exact this
    cases old with
    | none =>
      show wpAny _ A.in1 (updateSeq S (fun _ => #[.int n tn, .int n tn]) >>= _) _ _ _
      refine wpAny_bind (wpAny_updateSeq hS1 rfl ?_)
      rw [hname]
      have sb := Heap.SameBut.update h1 S (Obj.mapSeq fun _ => (#[Value.int n tn, Value.int n tn] : Array Value))
      refine wpAny_pure ⟨plainId_quiet F.plain_min_loop _, next (some (n, tn)) _ _ _ rfl (hI1.at fun o e => sb.extBut I o (Ne.symm hSI) e) (hl1.extBut sb.extBut (Ne.symm hSl)) (Heap.get?_update_self _ hS1 rfl) fun v h' tk hb hk => ?_⟩
      exact hR v h' tk hb fun b o e1 e2 e => hk b o e1 e2 ((sb.2 b e1).trans (hs1.extBut b o e2 e))
    | some q =>
      obtain ⟨m, tm⟩ := q
      have hS2 : h1.get? S = some { cls := .type "list", dict := none, data := .seq #[.int m tm, .int m tm] c, slots := #[] } := hS1
      show wpAny _ A.in1 (tryCatch (holding [Value.int n tn, Value.int n tn] (richCompare .Lt (.int n tn) (.int m tm) >>= _)) _ >>= _) _ _ _
      refine wpAny_bind (wpAny_tryCatch (wpAny_holding (wpAny_bind (lt_ints ?_))))
      refine wpAny_bind (wpAny_holding (wpAny_truthy_bool ?_))
      refine wpAny_bind (wpAny_letGo (wpAny_pure ?_))
      by_cases hlt : n < m
      · rw [decide_eq_true hlt, if_pos rfl]
        refine wpAny_bind (wpAny_updateSeq hS2 rfl (wpAny_bind (wpAny_letGo ?_)))
        rw [hname]
        have sb := Heap.SameBut.update h1 S (Obj.mapSeq fun _ => (#[Value.int n tn, Value.int n tn] : Array Value))
        refine wpAny_pure ⟨plainId_quiet F.plain_min_loop _, next (some (n, tn)) _ _ _ rfl (hI1.at fun o e => sb.extBut I o (Ne.symm hSI) e) (hl1.extBut sb.extBut (Ne.symm hSl)) (Heap.get?_update_self _ hS2 rfl) fun v h' tk hb hk => ?_⟩
        refine hR v h' tk ?_ fun b o e1 e2 e => hk b o e1 e2 ((sb.2 b e1).trans (hs1.extBut b o e2 e))
        rcases hb with ⟨z, _⟩ | ⟨k, t, rfl, k1, k2⟩
        · simp [seen] at z
        · refine .inr ⟨k, t, rfl, ?_, fun x hx => ?_⟩
          · simp only [seen, List.singleton_append, List.map_cons] at k1 ⊢
            exact List.mem_cons_of_mem _ k1
          · simp only [seen, List.singleton_append, List.map_cons] at k2 hx
            rcases List.mem_cons.mp hx with rfl | hx
            · have := k2 n List.mem_cons_self
              omega
            · exact k2 x hx
      · rw [decide_eq_false hlt, if_neg Bool.false_ne_true]
        refine wpAny_bind (wpAny_letGo ?_)
        rw [hname]
        refine wpAny_pure ⟨plainId_quiet F.plain_min_loop _, next (some (m, tm)) _ _ _ rfl hI1 hl1 hS1 fun v h' tk hb hk => ?_⟩
        refine hR v h' tk ?_ fun b o e1 e2 e => hk b o e1 e2 (hs1.extBut b o e2 e)
        rcases hb with ⟨z, _⟩ | ⟨k, t, rfl, k1, k2⟩
        · simp [seen] at z
        · refine .inr ⟨k, t, rfl, ?_, fun x hx => ?_⟩
          · simp only [seen, List.singleton_append, List.map_cons] at k1 ⊢
            rcases List.mem_cons.mp k1 with h | h
            · exact h ▸ List.mem_cons_self
            · exact List.mem_cons_of_mem _ (List.mem_cons_of_mem _ h)
          · simp only [seen, List.singleton_append, List.map_cons] at k2 hx
            rcases List.mem_cons.mp hx with rfl | hx
            · exact k2 x List.mem_cons_self
            · rcases List.mem_cons.mp hx with rfl | hx
              · have := k2 m List.mem_cons_self
                omega
              · exact k2 x (List.mem_cons_of_mem _ hx)
end
theorem tree_kw {prog : Program} {w : World} {A : Around} {E : Value → Shared → Prop} {s : Shared} {id : String} {b : Builtin} {args : List Value} {kw : List (Str × Value)} {Q : Value → Shared → Prop} (hk : builtinKind id = none) (hp : plainId id = true)
    (hb : entryFor table id = some b) (ha : argsOk id ⟨args, kw⟩) (hc : wpAny (model prog w) A.in1 (b ⟨args, kw⟩) (fun fin s' => match fin with
      | .done f => wants Q E (.ok f) s'
      | .again c' => c'.quiet = true ∧ codeAny (model prog w) A c' (wants Q E) s') E s) : wpAny (model prog w) A (call (.builtin id) args kw) Q E s := by
  refine wpAny_call (codeAny_call_builtin hp hb ?_)
  simp only [checkBuiltinCall, hk]
  have key : wpAny (model prog w) A.in1 (b ⟨args, kw⟩) _ E s := hc
  cases hs : Manifest.signature? id with
  | none => exact wpAny_pure key
  | some sg =>
    have e : Bind.checkArgs id sg ⟨args, kw⟩ = pure () := by simpa only [argsOk, hs] using ha
    simp only [e]
    exact wpAny_pure key
theorem args_minD (a d : Value) : argsOk "min" ⟨[a], [(Str.ofString "default", d)]⟩ := by unfold argsOk; kernel_rfl
theorem ints_pairs : ∀ {its : List Value} {ns : List Int}, IntsAre its ns → ∃ ps : List (Int × Tok), its = ps.map (fun p => Value.int p.1 p.2) ∧ ps.map (·.1) = ns
  | _, _, .nil => ⟨[], rfl, rfl⟩
  | _, _, .cons n t r => by
    obtain ⟨ps, e1, e2⟩ := ints_pairs r
    exact ⟨(n, t) :: ps, by rw [e1]; rfl, by rw [List.map_cons, e2]⟩
theorem call_minD {prog : Program} {w : World} {A : Around} {E : Value → Shared → Prop} {s : Shared} {l : Addr} {its : List Value} {ns : List Int} {d : Value} {Q : Value → Shared → Prop} (hh : A.handled = none) (hl : s.heap.IsList l its.toArray) (hi : IntsAre its ns)
    (h : ∀ v h' tk, IsBest d ns v → (∀ b o, s.heap.get? b = some o → h'.get? b = some o) → Q v { s with heap := h', toks := tk }) : wpAny (model prog w) A (call (.builtin "min") [.ref l] [(Str.ofString "default", d)]) Q E s := by
  have hname : (toString "min" ++ toString ".loop" : String) = "min.loop" := by decide
  obtain ⟨ps, rfl, rfl⟩ := ints_pairs hi
  have hlt : l < s.heap.objs.size := by
    obtain ⟨_, e, _⟩ := hl
    exact Heap.lt_size e
  refine tree_kw F.kind_min F.plain_min F.entry_min (args_minD _ _) ?_
  show wpAny _ A.in1 (Builtin.Builtins.bindParams "min" ["key", "default"] 0 ⟨[], [(Str.ofString "default", d)]⟩ >>= _) _ _ s
  refine wpAny_bind (wpAny_of_eq (show Builtin.Builtins.bindParams "min" ["key", "default"] 0 ⟨[], [(Str.ofString "default", d)]⟩ = pure [none, some d] from rfl) ?_)
  refine wpAny_bind (wpAny_pure ?_)
  refine wpAny_bind (wpAny_pyIter_list hl ?_)
  refine wpAny_bind (wpAny_newObj_type ?_)
  rw [hname]
  have k0 : ∀ b o, s.heap.get? b = some o → ((s.heap.push { cls := .type "list_iterator", data := .fields #[.ref l, .int 0 0] }).push { cls := .type "list", data := .seq #[] }).get? b = some o := fun b o e => Heap.get?_push_of_some _ (Heap.get?_push_of_some _ e)
  have gI : ((s.heap.push { cls := .type "list_iterator", data := .fields #[.ref l, .int 0 0] }).push { cls := .type "list", data := .seq #[] }).get? s.heap.objs.size = some { cls := .type "list_iterator", data := .fields #[.ref l, .int 0 0] } := Heap.get?_push_of_some _ (Heap.get?_push_size _ rfl)
  have hs1 : (s.heap.push { cls := .type "list_iterator", data := .fields #[.ref l, .int 0 0] }).objs.size = s.heap.objs.size + 1 := Heap.size_push ..
  refine wpAny_pure ⟨plainId_quiet F.plain_min_loop _, ?_⟩
  refine min_loopD (I := s.heap.objs.size) (S := (s.heap.push { cls := .type "list_iterator", data := .fields #[.ref l, .int 0 0] }).objs.size) (l := l) (items := (ps.map fun p => Value.int p.1 p.2).toArray) hh (Nat.ne_of_lt hlt) (by rw [hs1]; exact Nat.ne_of_gt (Nat.lt_succ_self _)) (by rw [hs1]; exact Nat.ne_of_gt (Nat.lt_succ_of_lt hlt))
    ps 0 none 0 _ (by simp) (fun j p hj => by simp [hj]) ⟨_, gI, rfl, rfl⟩ (hl.at fun o e => k0 _ _ e) (Heap.get?_push_size _ rfl) fun v h' tk hb hk => ?_
  exact h v h' tk hb fun b o e => hk b o (by rw [hs1]; exact Nat.ne_of_lt (Nat.lt_succ_of_lt (Heap.lt_size e))) (Nat.ne_of_lt (Heap.lt_size e)) (k0 b o e)
section
variable {X : Cx}
/-- min(xs, default=None) of ints -/
def rMinD (K : PySem.W.Frag) : List V → List V → Hp → VK → Prop := fun vs zs H Q => ∃ (a : Addr) (ns : List Int), vs = [.ref a] ∧ zs = [.non] ∧ SqL K H a (ns.map V.int) ∧ (ns = [] → Q .non H) ∧ ∀ m, m ∈ ns → (∀ x ∈ ns, m ≤ x) → Q (.int m) H
theorem cr_minD (hc : X.calm = true) : CallRK X (.builtin "min") [Str.ofString "default"] (rMinD X.K) := by
  intro pins s σ H vs zs us ws Q I r rz h
  obtain ⟨a, ns, rfl, rfl, hs, q0, q⟩ := h
  obtain rfl := Vals.ref1 r
  obtain ⟨w1, rfl, e1⟩ := vals1 rz
  obtain rfl : w1 = Value.none := e1
  obtain ⟨its, rv, hl, _⟩ := I.list hs
  refine call_minD (I.ok.hd hc) hl.isList rv.ints fun v h' tk hb hk => ?_
  rcases hb with ⟨e, rfl⟩ | ⟨m, t, rfl, h1, h2⟩
  · exact ⟨.non, H, I.kept hk, rfl, q0 e⟩
  · exact ⟨.int m, H, I.kept hk, ⟨_, rfl⟩, q m h1 h2⟩
end
end PF
-- part PfRulesE
set_option Elab.async false
set_option linter.all false
set_option maxRecDepth 100000
set_option maxHeartbeats 4000000
/-! own rule: t.index(x) of a tuple whose object is known -/
namespace PF
open PySem PySem.Spec PyProof.Rows L2
section
variable {X : Cx} {o e : Expr} {es : List Expr} {to : TE} {t : TA} {name : Str} {apos cpos : Pos} {id : String} {r : V → List V → Hp → VK → Prop}
def tBMF (r : V → List V → Hp → VK → Prop) (to : TE) (t : TA) : TE := fun σ H Q => to σ H fun x H1 => (∃ p xs, x = .ref p ∧ TupF H1 p xs) ∧ t σ H1 fun xs H2 => r x xs H2 Q
theorem pe_bmF (slot : Slot "tuple" name id) (hty : typeOf (.builtin id) = pure (.type "method_descriptor")) (hm : MtR X id r) (ho : PE X o to) (ha : PA X (e :: es) t)
    (hbase : attributeBase o name X.env (eval o X.env) = eval o X.env := by rfl)
    (hfew : ((backTo cpos (starEach (e :: es) X.env)).all (fun x => !x.1) && (backToKw cpos (keywordEach [] X.env)).all (fun x => x.1.isSome)
      && decide ((e :: es).length + ([] : List Keyword).length + (if ([] : List Keyword).isEmpty then 0 else 1) < 30)) = true := by rfl)
    (hline : (apos.endLine == cpos.line) = true := by rfl) (hs : starEach (e :: es) X.env = (false, eval e X.env) :: starEach es X.env := by rfl) (hplain : (backTo cpos (starEach es X.env)).any (·.1) = false := by rfl) :
    PE X (.Call (.Attribute o name apos) (e :: es) [] cpos) (tBMF r to t) := by
  refine ⟨fun pins s σ H Q I h => ?_⟩
  refine wpAny_Call_method_late hbase hfew hline rfl (thn (ho.run pins s σ H _ I h) fun v s1 h1 => ?_)
  obtain ⟨x, H1, I1, r1, ⟨p, xs, rfl, hT⟩, q1⟩ := h1
  cases r1
  obtain ⟨its, rv, ⟨ob, n, e1, c1, d1, _⟩, _⟩ := plain_tup I1 hT
  refine ⟨"tuple", id, PySem.F.plainAttrs_tuple, slot, hty, ⟨ob, e1, c1⟩, fun a ea => ?_, ?_⟩
  · cases ea
    exact ⟨ob, e1, d1⟩
  · have hA := ha.run cpos pins s1 σ H1 _ I1 q1
    rw [hs] at hA ⊢
    refine Calls.callWith_builtin (by show (false || (backTo cpos (starEach es X.env)).any (·.1)) = false; rw [hplain] <;> rfl) (Calls.evalArgs_plain ?_)
    exact thn hA fun us s2 h2 => by
      obtain ⟨vs, H2, I2, r2, q2⟩ := h2
      exact hm pins s2 σ H2 (.ref p) vs _ us Q I2 rfl r2 q2
end
end PF
-- part PfD
set_option Elab.async false
set_option linter.all false
set_option maxRecDepth 100000
set_option maxHeartbeats 4000000
/-! what stands for data in a heap; readings that yield data, the heap only growing -/
namespace PF
open PySem PySem.Spec PyProof.Rows L2
mutual
/-- v stands for the data d, all of it tracked -/
inductive DD (H : Hp) : V → PyData → Prop
  | non : DD H .non .none
  | bl (b : Bool) : DD H (.bl b) (.bool b)
  | int (i : Int) : DD H (.int i) (.int i)
  | str (z : Str) : DD H (.str z) (.str z)
  | lst {a : Addr} {xs : List V} {ds : List PyData} : H a = some (.lst xs) → DDs H xs ds → DD H (.ref a) (.list ds)
  | tup {a : Addr} {xs : List V} {ds : List PyData} : H a = some (.tup xs) → DDs H xs ds → DD H (.ref a) (.tuple ds)
inductive DDs (H : Hp) : List V → List PyData → Prop
  | nil : DDs H [] []
  | cons {v : V} {vs : List V} {d : PyData} {ds : List PyData} : DD H v d → DDs H vs ds → DDs H (v :: vs) (d :: ds)
end
mutual
theorem DD.mono {H H' : Hp} (e : Same H H') : ∀ {d : PyData} {v : V}, DD H v d → DD H' v d
  | .none, _, h => by cases h; exact .non
  | .bool b, _, h => by cases h; exact .bl b
  | .int i, _, h => by cases h; exact .int i
  | .str z, _, h => by cases h; exact .str z
  | .list ds, _, h => by
    cases h with
    | lst h1 h2 => exact .lst (e _ _ h1) (DDs.mono e h2)
  | .tuple ds, _, h => by
    cases h with
    | tup h1 h2 => exact .tup (e _ _ h1) (DDs.mono e h2)
  | .dict _, _, h => by cases h
theorem DDs.mono {H H' : Hp} (e : Same H H') : ∀ {ds : List PyData} {vs : List V}, DDs H vs ds → DDs H' vs ds
  | [], _, h => by cases h; exact .nil
  | d :: ds, _, h => by
    cases h with
    | cons h1 h2 => exact .cons (DD.mono e h1) (DDs.mono e h2)
end
mutual
theorem DD.dp {K : PySem.W.Frag} {H : Hp} : ∀ {d : PyData} {v : V}, DD H v d → Dp K H v d
  | .none, _, h => by cases h; exact .non
  | .bool b, _, h => by cases h; exact .bl b
  | .int i, _, h => by cases h; exact .int i
  | .str z, _, h => by cases h; exact .str z
  | .list ds, _, h => by
    cases h with
    | lst h1 h2 => exact .lst (SqL.of h1) (DDs.dp h2)
  | .tuple ds, _, h => by
    cases h with
    | tup h1 h2 => exact .tup (SqT.of h1) (DDs.dp h2)
  | .dict _, _, h => by cases h
theorem DDs.dp {K : PySem.W.Frag} {H : Hp} : ∀ {ds : List PyData} {vs : List V}, DDs H vs ds → DpAll K H vs ds
  | [], _, h => by cases h; exact .nil
  | d :: ds, _, h => by
    cases h with
    | cons h1 h2 => exact .cons (DD.dp h1) (DDs.dp h2)
end
section
variable {H : Hp} {v : V} {vs xs ys : List V} {d : PyData} {ds es : List PyData}
theorem DD.tupE (h : DD H v (.tuple ds)) : ∃ a xs, v = .ref a ∧ H a = some (.tup xs) ∧ DDs H xs ds := by
  cases h with
  | tup h1 h2 => exact ⟨_, _, rfl, h1, h2⟩
theorem DD.lstE (h : DD H v (.list ds)) : ∃ a xs, v = .ref a ∧ H a = some (.lst xs) ∧ DDs H xs ds := by
  cases h with
  | lst h1 h2 => exact ⟨_, _, rfl, h1, h2⟩
theorem DDs.consE (h : DDs H vs (d :: ds)) : ∃ x r, vs = x :: r ∧ DD H x d ∧ DDs H r ds := by
  cases h with
  | cons h1 h2 => exact ⟨_, _, rfl, h1, h2⟩
theorem DDs.len : ∀ {vs : List V} {ds : List PyData}, DDs H vs ds → vs.length = ds.length
  | _, _, .nil => rfl
  | _, _, .cons _ t => by rw [List.length_cons, List.length_cons, t.len]
theorem DDs.get : ∀ {vs : List V} {ds : List PyData} {i : Nat} {x : V}, DDs H vs ds → vs[i]? = some x → ∃ d, ds[i]? = some d ∧ DD H x d
  | _, _, i, x, .nil, h => by simp at h
  | _, _, 0, x, .cons h1 t, h => by cases h; exact ⟨_, rfl, h1⟩
  | _, _, i + 1, x, .cons h1 t, h => t.get (i := i) h
theorem DDs.at : ∀ {vs : List V} {ds : List PyData} {i : Nat} {d : PyData}, DDs H vs ds → ds[i]? = some d → ∃ x, vs[i]? = some x ∧ DD H x d
  | _, _, i, x, .nil, h => by simp at h
  | _, _, 0, x, .cons h1 t, h => by cases h; exact ⟨_, rfl, h1⟩
  | _, _, i + 1, x, .cons h1 t, h => t.at (i := i) h
theorem DDs.append : ∀ {vs ys : List V} {ds es : List PyData}, DDs H vs ds → DDs H ys es → DDs H (vs ++ ys) (ds ++ es)
  | _, _, _, _, .nil, h => h
  | _, _, _, _, .cons h1 t, h => .cons h1 (t.append h)
theorem DDs.snoc (h : DDs H vs ds) (h1 : DD H v d) : DDs H (vs ++ [v]) (ds ++ [d]) := h.append (.cons h1 .nil)
theorem DDs.ints : ∀ {ns : List Int} {vs : List V}, DDs H vs (ns.map .int) → vs = ns.map V.int
  | [], _, h => by cases h; rfl
  | n :: ns, _, h => by
    cases h with
    | cons h1 t => cases h1; rw [DDs.ints t]; rfl
theorem DDs.strs : ∀ {ns : List Str} {vs : List V}, DDs H vs (ns.map .str) → vs = ns.map V.str
  | [], _, h => by cases h; rfl
  | n :: ns, _, h => by
    cases h with
    | cons h1 t => cases h1; rw [DDs.strs t]; rfl
theorem DDs.bls : ∀ {ns : List Bool} {vs : List V}, DDs H vs (ns.map .bool) → vs = ns.map V.bl
  | [], _, h => by cases h; rfl
  | n :: ns, _, h => by
    cases h with
    | cons h1 t => cases h1; rw [DDs.bls t]; rfl
theorem DDs.of_ints : ∀ (ns : List Int), DDs H (ns.map V.int) (ns.map .int)
  | [] => .nil
  | n :: ns => .cons (.int n) (DDs.of_ints ns)
theorem DDs.of_strs : ∀ (ns : List Str), DDs H (ns.map V.str) (ns.map .str)
  | [] => .nil
  | n :: ns => .cons (.str n) (DDs.of_strs ns)
end
def noneD : PyData → Bool
  | .none => true
  | _ => false
/-! ### growth: S is what is known to stand still, H the heap -/
def NoT (S : Hp) : Prop := ∀ b ps, S b ≠ some (.tbl ps)
theorem NoT.upd {S : Hp} {p : Addr} {o : HO} (h : NoT S) (ho : ∀ ps, o ≠ .tbl ps) : NoT (upd S p o) := fun b ps e => by
  by_cases hb : b = p
  · subst hb; rw [upd_same] at e; cases e; exact ho ps rfl
  · rw [upd_ne hb] at e; exact h b ps e
/-- a place that is there, no tuple -/
abbrev nonT (o : Option HO) : Prop := o ≠ none ∧ ∀ xs, o ≠ some (.tup xs)
structure Gr (ex : List Addr) (S H S' H' : Hp) : Prop where
  hh : ∀ b o, b ∉ ex → H b = some o → H' b = some o
  al : ∀ b, nonT (H b) → nonT (H' b)
  ss : Same S S'
  sh : Same S' H'
  hid : ∀ b, S b = none → nonT (H b) → S' b = none
  nt : NoT S → NoT S'
theorem Gr.same {S H S' H' : Hp} (g : Gr [] S H S' H') : Same H H' := fun b o e => g.hh b o (by simp) e
theorem Gr.refl {ex : List Addr} {S H : Hp} (h : Same S H) : Gr ex S H S H := ⟨fun _ _ _ e => e, fun _ e => e, Same.refl _, h, fun _ e _ => e, id⟩
theorem nonT_keep {H H' : Hp} {b : Addr} (k : ∀ o, H b = some o → H' b = some o) (h : nonT (H b)) : nonT (H' b) := by
  cases e : H b with
  | none => exact absurd e h.1
  | some o =>
    rw [k o e]
    rw [e] at h
    exact h
theorem Gr.of {S H S' H' : Hp} (a : Same H H') (b : Same S S') (c : Same S' H') (d : ∀ b, S b = none → nonT (H b) → S' b = none) (n : NoT S → NoT S') : Gr [] S H S' H' :=
  ⟨fun b o _ e => a b o e, fun b e => nonT_keep (a b) e, b, c, d, n⟩
theorem Gr.trans {ex : List Addr} {S H S1 H1 S2 H2 : Hp} (a : Gr ex S H S1 H1) (b : Gr ex S1 H1 S2 H2) : Gr ex S H S2 H2 :=
  ⟨fun x o n e => b.hh x o n (a.hh x o n e), fun x e => b.al x (a.al x e), a.ss.trans b.ss, b.sh, fun x e n => b.hid x (a.hid x e n) (a.al x n), fun z => b.nt (a.nt z)⟩
theorem Gr.up {ex ex' : List Addr} {S H S1 H1 : Hp} (a : Gr ex S H S1 H1) (h : ∀ b ∈ ex, b ∈ ex') : Gr ex' S H S1 H1 := ⟨fun x o n e => a.hh x o (fun z => n (h x z)) e, a.al, a.ss, a.sh, a.hid, a.nt⟩
theorem Gr.up0 {ex : List Addr} {S H S1 H1 : Hp} (a : Gr [] S H S1 H1) : Gr ex S H S1 H1 := a.up (by simp)
/-- behind a heap that does not know the changed places yet -/
theorem Gr.over {ex fr : List Addr} {S H S1 H1 S2 H2 : Hp} (a : Gr ex S H S1 H1) (b : Gr (fr ++ ex) S1 H1 S2 H2) (h : ∀ p ∈ fr, H p = none) : Gr ex S H S2 H2 :=
  ⟨fun x o n e => b.hh x o (fun z => by
    rcases List.mem_append.mp z with z | z
    · rw [h x z] at e; cases e
    · exact n z) (a.hh x o n e), fun x e => b.al x (a.al x e), a.ss.trans b.ss, b.sh, fun x e n => b.hid x (a.hid x e n) (a.al x n), fun z => b.nt (a.nt z)⟩
theorem Gr.over1 {o : Addr} {S H S1 H1 S2 H2 : Hp} (a : Gr [] S H S1 H1) (b : Gr [o] S1 H1 S2 H2) (h : H o = none) : Gr [] S H S2 H2 := Gr.over (fr := [o]) a b (by simpa using h)
/-- a hidden place changes -/
theorem Gr.put {ex : List Addr} {S H S1 H1 : Hp} {p : Addr} {o : HO} (a : Gr ex S H S1 H1) (hp : p ∈ ex) (n : S1 p = none) (ho : ∀ xs, o ≠ .tup xs := by intro xs e; cases e) : Gr ex S H S1 (upd H1 p o) := by
  refine ⟨fun b u nb e => ?_, fun b e => ?_, a.ss, fun b u e => ?_, a.hid, a.nt⟩
  · rw [upd_ne (fun z => nb (by rw [z]; exact hp))]; exact a.hh b u nb e
  · by_cases h : b = p
    · subst h; rw [upd_same]; exact ⟨by simp, fun xs z => ho xs (Option.some.inj z)⟩
    · rw [upd_ne h]; exact a.al b e
  · rw [upd_ne (ne_of_none e n)]; exact a.sh b u e
/-- a new object, told -/
theorem Gr.new {S H : Hp} {p : Addr} {o : HO} (h : Same S H) (n : H p = none) (ho : ∀ ps, o ≠ .tbl ps := by intro ps e; cases e) : Gr [] S H (upd S p o) (upd H p o) := by
  refine Gr.of (fun b u e => ?_) (fun b u e => ?_) (fun b u e => ?_) (fun b e m => ?_) fun z => z.upd ho
  · rw [upd_ne (ne_of_none e n)]; exact e
  · rw [upd_ne (ne_of_none e (h.free n))]; exact e
  · by_cases hb : b = p
    · subst hb; rw [upd_same] at e ⊢; exact e
    · rw [upd_ne hb] at e ⊢; exact h b u e
  · rw [upd_ne (fun z => m.1 (by rw [z]; exact n))]; exact e
/-- a new object, kept hidden -/
theorem Gr.priv {S H : Hp} {p : Addr} {o : HO} (h : Same S H) (n : H p = none) : Gr [] S H S (upd H p o) := by
  refine Gr.of (fun b u e => ?_) (Same.refl _) (fun b u e => ?_) (fun b e m => e) id
  · rw [upd_ne (ne_of_none e n)]; exact e
  · rw [upd_ne (ne_of_none (h b u e) n)]; exact h b u e
/-- what was hidden, new since, is told -/
theorem Gr.tell {ex : List Addr} {S H S1 H1 : Hp} {p : Addr} {o : HO} (a : Gr ex S H S1 H1) (n : H p = none) (n1 : S1 p = none) (e1 : H1 p = some o) (ho : ∀ ps, o ≠ .tbl ps := by intro ps e; cases e) : Gr ex S H (upd S1 p o) H1 := by
  refine ⟨a.hh, a.al, a.ss.trans fun b u e => ?_, fun b u e => ?_, fun b e m => ?_, fun z => (a.nt z).upd ho⟩
  · rw [upd_ne (ne_of_none e n1)]; exact e
  · by_cases hb : b = p
    · subst hb; rw [upd_same] at e; cases e; exact e1
    · rw [upd_ne hb] at e; exact a.sh b u e
  · rw [upd_ne (fun z => m.1 (by rw [z]; exact n))]; exact a.hid b e m
theorem same_upd' {S : Hp} {p : Addr} {o : HO} (n : S p = none) : Same S (upd S p o) := fun b u e => by rw [upd_ne (ne_of_none e n)]; exact e

/-! ### readings -/
def Gv (t : TE) (σ : L2.St) (S : Hp) (R : Hp → V → Prop) : Prop := ∀ S1 H, Same S S1 → Same S1 H → ∀ Q : VK, (∀ v S' H', Gr [] S1 H S' H' → R S' v → Q v H') → t σ H Q
abbrev GD (t : TE) (σ : L2.St) (S : Hp) (d : PyData) : Prop := Gv t σ S fun S' v => DD S' v d
def GT (t : TT) (σ : L2.St) (S : Hp) (b : Bool) : Prop := ∀ S1 H, Same S S1 → Same S1 H → ∀ Q : Bool → Hp → Prop, (∀ S' H', Gr [] S1 H S' H' → Q b H') → t σ H Q
def GA (t : TA) (σ : L2.St) (S : Hp) (R : Hp → List V → Prop) : Prop := ∀ S1 H, Same S S1 → Same S1 H → ∀ Q : List V → Hp → Prop, (∀ v S' H', Gr [] S1 H S' H' → R S' v → Q v H') → t σ H Q
abbrev GDs (t : TA) (σ : L2.St) (S : Hp) (ds : List PyData) : Prop := GA t σ S fun S' vs => DDs S' vs ds
/-- an operator, a call of values -/
def RV (r : R2) (S : Hp) (x y : V) (R : Hp → V → Prop) : Prop := ∀ S1 H, Same S S1 → Same S1 H → ∀ Q : VK, (∀ v S' H', Gr [] S1 H S' H' → R S' v → Q v H') → r x y H Q
def RC (r : List V → Hp → VK → Prop) (S : Hp) (vs : List V) (R : Hp → V → Prop) : Prop := ∀ S1 H, Same S S1 → Same S1 H → ∀ Q : VK, (∀ v S' H', Gr [] S1 H S' H' → R S' v → Q v H') → r vs H Q
section
variable {K : PySem.W.Frag} {σ : L2.St} {S S' H : Hp} {ta tb te tc : TE} {tt tu : TT} {v : V} {d e : PyData} {R R' R2' : Hp → V → Prop} {r : R2}
theorem Gv.mono (h : Gv te σ S R) (e : Same S S') : Gv te σ S' R := fun S1 H a b Q q => h S1 H (e.trans a) b Q q
theorem GT.mono {b : Bool} (h : GT tt σ S b) (e : Same S S') : GT tt σ S' b := fun S1 H a b Q q => h S1 H (e.trans a) b Q q
theorem Gv.weak (h : Gv te σ S R) (w : ∀ S' v, Same S S' → R S' v → R' S' v) : Gv te σ S R' := fun S1 H a b Q q => h S1 H a b Q fun v S2 H2 g r => q v S2 H2 g (w _ _ (a.trans g.ss) r)
/-- used: what follows from here on -/
theorem Gv.run (h : Gv te σ S R) (sS : Same S H) {Q : VK} (q : ∀ v S' H', Gr [] S H S' H' → R S' v → Q v H') : te σ H Q := h S H (Same.refl _) sS Q q
theorem GT.run {b : Bool} (h : GT tt σ S b) (sS : Same S H) {Q : Bool → Hp → Prop} (q : ∀ S' H', Gr [] S H S' H' → Q b H') : tt σ H Q := h S H (Same.refl _) sS Q q
theorem gVar {i : Nat} (h : σ[i]? = some (some v)) (r : ∀ S', Same S S' → R S' v) : Gv (tVar i) σ S R := fun S1 H a b Q q => ⟨v, h, q v S1 H (Gr.refl b) (r S1 a)⟩
theorem gV {i : Nat} (hd : DD S v d) (h : σ[i]? = some (some v) := by rfl) : GD (tVar i) σ S d := gVar h fun S' e => hd.mono e
theorem gC (r : ∀ S', Same S S' → R S' v) : Gv (tC v) σ S R := fun S1 H a b Q q => q v S1 H (Gr.refl b) (r S1 a)
theorem gInt {i : Int} : GD (tC (.int i)) σ S (.int i) := gC fun _ _ => .int i
theorem gStr {z : Str} : GD (tC (.str z)) σ S (.str z) := gC fun _ _ => .str z
theorem gNon : GD (tC .non) σ S .none := gC fun _ _ => .non
theorem gBl {b : Bool} : GD (tC (.bl b)) σ S (.bool b) := gC fun _ _ => .bl b
theorem gOp (ha : Gv ta σ S R) (hb : ∀ S1 x, Same S S1 → R S1 x → Gv tb σ S1 fun S2 y => RV r S2 x y R2') : Gv (tOp r ta tb) σ S R2' := fun S1 H a b Q q =>
  ha S1 H a b _ fun x S2 H2 g hx => hb S2 x (a.trans g.ss) hx S2 H2 (Same.refl _) g.sh _ fun y S3 H3 g3 hr => hr S3 H3 (Same.refl _) g3.sh Q fun v S4 H4 g4 hv => q v S4 H4 (g.trans (g3.trans g4)) hv
theorem gOpD (ha : GD ta σ S d) (hb : GD tb σ S e) (hr : ∀ S2 x y, Same S S2 → DD S2 x d → DD S2 y e → RV r S2 x y R2') : Gv (tOp r ta tb) σ S R2' :=
  gOp ha fun S1 x a hx => (hb.mono a).weak fun S2 y a2 hy => hr S2 x y (a.trans a2) (hx.mono a2) hy
theorem rvI {g : Int → Int → V} {i j : Int} {R : Hp → V → Prop} (h : ∀ S', Same S S' → R S' (g i j)) : RV (rI0 g) S (.int i) (.int j) R := fun S1 H a b Q q => ⟨i, j, rfl, rfl, q _ S1 H (Gr.refl b) (h S1 a)⟩
theorem rvIC {C : Int → Int → Prop} {g : Int → Int → V} {i j : Int} {R : Hp → V → Prop} (hc : C i j) (h : ∀ S', Same S S' → R S' (g i j)) : RV (rI C g) S (.int i) (.int j) R := fun S1 H a b Q q => ⟨i, j, rfl, rfl, hc, q _ S1 H (Gr.refl b) (h S1 a)⟩
theorem gI0 {g : Int → Int → V} {i j : Int} (ha : GD ta σ S (.int i)) (hb : GD tb σ S (.int j)) (h : ∀ S', Same S S' → R S' (g i j)) : Gv (tOp (rI0 g) ta tb) σ S R :=
  gOpD ha hb fun S2 x y a hx hy => by cases hx; cases hy; exact rvI fun S' e => h S' (a.trans e)
theorem gIC {C : Int → Int → Prop} {g : Int → Int → V} {i j : Int} (ha : GD ta σ S (.int i)) (hb : GD tb σ S (.int j)) (hc : C i j) (h : ∀ S', Same S S' → R S' (g i j)) : Gv (tOp (rI C g) ta tb) σ S R :=
  gOpD ha hb fun S2 x y a hx hy => by cases hx; cases hy; exact rvIC hc fun S' e => h S' (a.trans e)
theorem gaNil : GDs tNil σ S [] := fun S1 H a b Q q => q [] S1 H (Gr.refl b) .nil
theorem gaCons' {tr : TA} {RA : Hp → List V → Prop} (h : Gv ta σ S R) (hr : ∀ S1 x, Same S S1 → R S1 x → GA tr σ S1 fun S2 vs => RA S2 (x :: vs)) : GA (tCons ta tr) σ S RA := fun S1 H a b Q q =>
  h S1 H a b _ fun x S2 H2 g hx => hr S2 x (a.trans g.ss) hx S2 H2 (Same.refl _) g.sh _ fun vs S3 H3 g3 hv => q _ S3 H3 (g.trans g3) hv
theorem GA.mono {tr : TA} {RA : Hp → List V → Prop} (h : GA tr σ S RA) (e : Same S S') : GA tr σ S' RA := fun S1 H a b Q q => h S1 H (e.trans a) b Q q
theorem GA.weak {tr : TA} {RA RB : Hp → List V → Prop} (h : GA tr σ S RA) (w : ∀ S' v, Same S S' → RA S' v → RB S' v) : GA tr σ S RB := fun S1 H a b Q q => h S1 H a b Q fun v S2 H2 g r => q v S2 H2 g (w _ _ (a.trans g.ss) r)
theorem gaCons {tr : TA} {ds : List PyData} (h : GD ta σ S d) (hr : GDs tr σ S ds) : GDs (tCons ta tr) σ S (d :: ds) :=
  gaCons' h fun S1 x a hx => (hr.mono a).weak fun S2 vs a2 hv => .cons (hx.mono a2) hv
theorem ga1 (h : Gv ta σ S R) : GA (tCons ta tNil) σ S fun S' vs => ∃ v, vs = [v] ∧ R S' v := fun S1 H a b Q q => h S1 H a b _ fun x S2 H2 g hx => q [x] S2 H2 g ⟨x, rfl, hx⟩
theorem gTest {b : Bool} (h : GD te σ S (.bool b)) : GT (tTest te) σ S b := fun S1 H a c Q q => h S1 H a c _ fun x S2 H2 g hx => by cases hx; exact ⟨b, rfl, q S2 H2 g⟩
theorem gB {b : Bool} (h : GD te σ S (.bool b)) : GT (tB te) σ S b := fun S1 H a c Q q => h S1 H a c _ fun x S2 H2 g hx => by cases hx; exact ⟨b, rfl, q S2 H2 g⟩
theorem gYes : GT tYes σ S true := fun S1 H a c Q q => q S1 H (Gr.refl c)
theorem gAnd {a b : Bool} (h1 : GT tt σ S a) (h2 : a = true → GT tu σ S b) : GT (tAnd tt tu) σ S (a && b) := fun S1 H e c Q q => h1 S1 H e c _ fun S2 H2 g => by
  cases a with
  | true => exact (iteT ((h2 rfl) S2 H2 (e.trans g.ss) g.sh Q fun S3 H3 g3 => q S3 H3 (g.trans g3)))
  | false => exact iteF (q S2 H2 g)
theorem gOr {a b : Bool} (h1 : GT tt σ S a) (h2 : a = false → GT tu σ S b) : GT (tOr tt tu) σ S (a || b) := fun S1 H e c Q q => h1 S1 H e c _ fun S2 H2 g => by
  cases a with
  | false => exact (iteF ((h2 rfl) S2 H2 (e.trans g.ss) g.sh Q fun S3 H3 g3 => q S3 H3 (g.trans g3)))
  | true => exact iteT (q S2 H2 g)
theorem gNot {a : Bool} (h1 : GT tt σ S a) : GT (tNot tt) σ S (!a) := fun S1 H e c Q q => h1 S1 H e c _ fun S2 H2 g => q S2 H2 g
theorem GT.is {a b : Bool} (h : GT tt σ S a) (e : a = b) : GT tt σ S b := e ▸ h
theorem GD.is (h : GD te σ S d) (x : d = e) : GD te σ S e := x ▸ h
theorem gAndV {a b : Bool} (h1 : GD ta σ S (.bool a)) (h2 : a = true → GD tb σ S (.bool b)) : GD (tAndV ta tb) σ S (.bool (a && b)) := fun S1 H e c Q q => h1 S1 H e c _ fun x S2 H2 g hx => by
  cases hx
  refine ⟨a, rfl, ?_⟩
  cases a with
  | true => exact (iteT ((h2 rfl) S2 H2 (e.trans g.ss) g.sh Q fun v S3 H3 g3 hv => q v S3 H3 (g.trans g3) hv))
  | false => exact iteF (q _ S2 H2 g (.bl false))
theorem gOrV {a b : Bool} (h1 : GD ta σ S (.bool a)) (h2 : a = false → GD tb σ S (.bool b)) : GD (tOrV ta tb) σ S (.bool (a || b)) := fun S1 H e c Q q => h1 S1 H e c _ fun x S2 H2 g hx => by
  cases hx
  refine ⟨a, rfl, ?_⟩
  cases a with
  | false => exact (iteF ((h2 rfl) S2 H2 (e.trans g.ss) g.sh Q fun v S3 H3 g3 hv => q v S3 H3 (g.trans g3) hv))
  | true => exact iteT (q _ S2 H2 g (.bl true))
theorem gNotV {a : Bool} (h1 : GD ta σ S (.bool a)) : GD (tNotV ta) σ S (.bool (!a)) := fun S1 H e c Q q => h1 S1 H e c _ fun x S2 H2 g hx => by
  cases hx
  exact ⟨a, rfl, q _ S2 H2 g (.bl (!a))⟩
theorem gIf {b : Bool} (h : GT tt σ S b) (h1 : b = true → Gv ta σ S R) (h2 : b = false → Gv tb σ S R) : Gv (tIf tt ta tb) σ S R := fun S1 H e c Q q => h S1 H e c _ fun S2 H2 g => by
  cases b with
  | true => exact iteT ((h1 rfl) S2 H2 (e.trans g.ss) g.sh Q fun v S3 H3 g3 hv => q v S3 H3 (g.trans g3) hv)
  | false => exact iteF ((h2 rfl) S2 H2 (e.trans g.ss) g.sh Q fun v S3 H3 g3 hv => q v S3 H3 (g.trans g3) hv)
theorem DD.isN {H : Hp} {v : V} {d : PyData} (h : DD H v d) : decide (v = V.non) = noneD d := by cases h <;> simp [noneD]
theorem gIsN (h : GD ta σ S d) : GD (tIsN ta) σ S (.bool (noneD d)) := fun S1 H e c Q q => h S1 H e c _ fun x S2 H2 g hx => by
  show Q (.bl (decide (x = .non))) H2
  rw [hx.isN]
  exact q _ S2 H2 g (.bl _)
theorem gNotN (h : GD ta σ S d) : GD (tNotN ta) σ S (.bool (!noneD d)) := fun S1 H e c Q q => h S1 H e c _ fun x S2 H2 g hx => by
  show Q (.bl (!decide (x = .non))) H2
  rw [hx.isN]
  exact q _ S2 H2 g (.bl _)
theorem gUn {f : Int → V} {i : Int} (h : GD ta σ S (.int i)) (hr : ∀ S', Same S S' → R S' (f i)) : Gv (tUn (rU f) ta) σ S R := fun S1 H e c Q q => h S1 H e c _ fun x S2 H2 g hx => by
  cases hx
  exact ⟨i, rfl, q _ S2 H2 g (hr _ (e.trans g.ss))⟩
theorem gCB {t : TA} {rc : List V → Hp → VK → Prop} {RA : Hp → List V → Prop} (h : GA t σ S RA) (hr : ∀ S2 vs, Same S S2 → RA S2 vs → RC rc S2 vs R) : Gv (tCB rc t) σ S R := fun S1 H e c Q q => h S1 H e c _ fun vs S2 H2 g hv =>
  hr S2 vs (e.trans g.ss) hv S2 H2 (Same.refl _) g.sh Q fun v S3 H3 g3 hv3 => q v S3 H3 (g.trans g3) hv3
/-- a new list, a new tuple -/
theorem dNewL {H0 : Hp} {p : Addr} {xs : List V} {ds : List PyData} (hx : DDs S xs ds) (hn : S p = none) : DD (upd S p (.lst xs)) (.ref p) (.list ds) := .lst upd_same (hx.mono (same_upd' hn))
theorem dNewT {p : Addr} {xs : List V} {ds : List PyData} (hx : DDs S xs ds) (hn : S p = none) : DD (upd S p (.tup xs)) (.ref p) (.tuple ds) := .tup upd_same (hx.mono (same_upd' hn))
end
end PF
-- part PfE
set_option Elab.async false
set_option linter.all false
set_option maxRecDepth 100000
set_option maxHeartbeats 4000000
/-! displays, operators, slices, dicts, calls over data -/
namespace PF
open PySem PySem.Spec PyProof.Rows L2
def rAddS : R2 := fun x y H Q => ∃ i j, x = .str i ∧ y = .str j ∧ i.length + j.length ≤ sizeLine ∧ Q (.str (i ++ j)) H
def rAdd4 (K : PySem.W.Frag) : R2 := fun x y H Q => rI0 (fun i j => .int (i + j)) x y H Q ∨ rAddS x y H Q ∨ rCat x y H Q ∨ rCatA K x y H Q
def rSl2 (K : PySem.W.Frag) : V → Option Int → Option Int → Hp → VK → Prop := fun x lo hi H Q => rSlL K x lo hi H Q ∨ rSlA K x lo hi H Q
section
variable {X : Cx}
theorem op_add4 : OpR X (binaryOp .Add) (rAdd4 X.K) := by
  intro pins s σ H x y v u Q I rx ry h
  rcases h with h | h | h | h
  · exact op_add pins s σ H x y v u Q I rx ry h
  · exact op_add_str pins s σ H x y v u Q I rx ry h
  · exact op_cat pins s σ H x y v u Q I rx ry h
  · exact op_catA pins s σ H x y v u Q I rx ry h
theorem sl_2 : SlR X (rSl2 X.K) := by
  intro pins s σ H x v vl vu lo hi sl Q I rx hs pl pu h
  rcases h with h | h
  · exact sl_list pins s σ H x v vl vu lo hi sl Q I rx hs pl pu h
  · exact sl_tupA pins s σ H x v vl vu lo hi sl Q I rx hs pl pu h
end
def kD : Key → PyData
  | .inl i => .int i
  | .inr z => .str z
def cutA {α : Type} (xs : List α) (lo hi : Option Int) : List α := (xs.drop (HT.sIx xs.length 0 lo)).take (HT.sIx xs.length xs.length hi - HT.sIx xs.length 0 lo)
theorem DDs.drop {H : Hp} : ∀ {n : Nat} {vs : List V} {ds : List PyData}, DDs H vs ds → DDs H (vs.drop n) (ds.drop n)
  | 0, _, _, h => by simpa using h
  | n + 1, _, _, .nil => by simpa using DDs.nil
  | n + 1, _, _, .cons _ t => by simpa using t.drop (n := n)
theorem DDs.take {H : Hp} : ∀ {n : Nat} {vs : List V} {ds : List PyData}, DDs H vs ds → DDs H (vs.take n) (ds.take n)
  | 0, _, _, h => by simpa using DDs.nil
  | n + 1, _, _, .nil => by simpa using DDs.nil
  | n + 1, _, _, .cons h t => by simpa using DDs.cons h (t.take (n := n))
theorem DDs.cut {H : Hp} {vs : List V} {ds : List PyData} {lo hi : Option Int} (h : DDs H vs ds) : DDs H (cutV vs lo hi) (cutA ds lo hi) := by
  unfold cutV cutA
  rw [h.len]
  exact h.drop.take
theorem DDs.keys {H : Hp} : ∀ {k : List Key} {vs : List V}, DDs H vs (k.map kD) → vs = k.map kV
  | [], _, h => by cases h; rfl
  | .inl i :: k, _, h => by
    cases h with
    | cons h1 t => cases h1; rw [DDs.keys t]; rfl
  | .inr z :: k, _, h => by
    cases h with
    | cons h1 t => cases h1; rw [DDs.keys t]; rfl
theorem DDs.of_keys {H : Hp} : ∀ (k : List Key), DDs H (k.map kV) (k.map kD)
  | [] => .nil
  | .inl i :: k => .cons (.int i) (DDs.of_keys k)
  | .inr z :: k => .cons (.str z) (DDs.of_keys k)
theorem DDs.atI {H : Hp} {vs : List V} {ds : List PyData} {i : Int} {d : PyData} (h : DDs H vs ds) (e : L2.atI ds i = some d) : ∃ x, L2.atI vs i = some x ∧ DD H x d := by
  unfold L2.atI at e ⊢
  rw [h.len]
  cases q : ixN ds.length i with
  | none => rw [q] at e; cases e
  | some j => rw [q] at e; exact h.at e
section
variable {K : PySem.W.Frag} {σ : L2.St} {S S' H : Hp} {ta tb te tc : TE} {tt tu : TT} {t : TA} {v : V} {d e : PyData} {ds es : List PyData} {R R' R2' : Hp → V → Prop} {r : R2}
theorem eTup (h : GDs t σ S ds) (hz : ds.length ≤ sizeLine := by exact Nat.le_trans (show _ ≤ 64 by simp) (by decide)) : GD (tTup t) σ S (.tuple ds) := fun S1 H a b Q q => h S1 H a b _ fun xs S2 H2 g hx =>
  ⟨by rw [hx.len]; exact hz, fun p hp => q (.ref p) _ _ (g.trans (Gr.new g.sh hp)) (dNewT hx (g.sh.free hp))⟩
theorem eLst (h : GDs t σ S ds) (hz : ds.length ≤ sizeLine := by exact Nat.le_trans (show _ ≤ 64 by simp) (by decide)) : GD (tLst t) σ S (.list ds) := fun S1 H a b Q q => h S1 H a b _ fun xs S2 H2 g hx =>
  ⟨by rw [hx.len]; exact hz, fun p hp => q (.ref p) _ _ (g.trans (Gr.new g.sh hp)) (.lst upd_same (hx.mono (same_upd' (g.sh.free hp))))⟩
/-- a new list, hidden from what is told -/
theorem gLstP (h : GDs t σ S ds) (sS : Same S H) {Q : VK} (hz : ds.length ≤ sizeLine) (q : ∀ p xs S' H', Gr [] S H S' H' → H p = none → S' p = none → H' p = some (.lst xs) → DDs S' xs ds → Q (.ref p) H') : tLst t σ H Q :=
  h S H (Same.refl _) sS _ fun xs S2 H2 g hx => ⟨by rw [hx.len]; exact hz, fun p hp => q p xs S2 _ (g.trans (Gr.priv g.sh hp)) (g.same.free hp) (g.sh.free hp) upd_same hx⟩
theorem gAddI {i j : Int} (ha : GD ta σ S (.int i)) (hb : GD tb σ S (.int j)) : GD (tOp (rAdd4 K) ta tb) σ S (.int (i + j)) :=
  gOpD ha hb fun S2 x y a hx hy => by cases hx; cases hy; exact fun S3 H a b Q q => .inl ⟨i, j, rfl, rfl, q _ S3 H (Gr.refl b) (.int _)⟩
theorem gAddS {i j : Str} (ha : GD ta σ S (.str i)) (hb : GD tb σ S (.str j)) (hz : i.length + j.length ≤ sizeLine) : GD (tOp (rAdd4 K) ta tb) σ S (.str (i ++ j)) :=
  gOpD ha hb fun S2 x y a hx hy => by cases hx; cases hy; exact fun S3 H a b Q q => .inr (.inl ⟨i, j, rfl, rfl, hz, q _ S3 H (Gr.refl b) (.str _)⟩)
theorem gAddL (ha : GD ta σ S (.list ds)) (hb : GD tb σ S (.list es)) (hz : ds.length + es.length ≤ sizeLine) : GD (tOp (rAdd4 K) ta tb) σ S (.list (ds ++ es)) :=
  gOpD ha hb fun S2 x y a hx hy => by
    obtain ⟨p, xs, rfl, h1, h2⟩ := hx.lstE
    obtain ⟨q, ys, rfl, h3, h4⟩ := hy.lstE
    exact fun S3 H a b Q k => .inr (.inr (.inl ⟨p, q, xs, ys, rfl, rfl, b _ _ (a _ _ h1), b _ _ (a _ _ h3), by rw [h2.len, h4.len]; exact hz, fun c hc =>
      k _ _ _ (Gr.new b hc) (.lst upd_same (((h2.append h4).mono a).mono (same_upd' (b.free hc))))⟩))
theorem gAddT (ha : GD ta σ S (.tuple ds)) (hb : GD tb σ S (.tuple es)) (hz : ds.length + es.length ≤ sizeLine) : GD (tOp (rAdd4 K) ta tb) σ S (.tuple (ds ++ es)) :=
  gOpD ha hb fun S2 x y a hx hy => by
    obtain ⟨p, xs, rfl, h1, h2⟩ := hx.tupE
    obtain ⟨q, ys, rfl, h3, h4⟩ := hy.tupE
    exact fun S3 H a b Q k => .inr (.inr (.inr ⟨p, q, xs, ys, rfl, rfl, SqT.of (b _ _ (a _ _ h1)), SqT.of (b _ _ (a _ _ h3)), by rw [h2.len, h4.len]; exact hz,
      fun e => k _ S3 H (Gr.refl b) (by subst e; cases h2; exact .tup (a _ _ h3) (h4.mono a)),
      fun _ e => k _ S3 H (Gr.refl b) (by subst e; cases h4; rw [List.append_nil]; exact .tup (a _ _ h1) (h2.mono a)),
      fun _ _ c hc => k _ _ _ (Gr.new b hc) (.tup upd_same (((h2.append h4).mono a).mono (same_upd' (b.free hc))))⟩))
theorem eSub {i j : Int} (ha : GD ta σ S (.int i)) (hb : GD tb σ S (.int j)) : GD (tOp (rI0 fun i j => .int (i - j)) ta tb) σ S (.int (i - j)) := gI0 ha hb fun _ _ => .int _
theorem gMul {i j : Int} (ha : GD ta σ S (.int i)) (hb : GD tb σ S (.int j)) (hc : CMul i j) : GD (tOp (rI CMul fun i j => .int (i * j)) ta tb) σ S (.int (i * j)) := gIC ha hb hc fun _ _ => .int _
theorem gNeg {i : Int} (h : GD ta σ S (.int i)) : GD (tUn (rU fun i => .int (-i)) ta) σ S (.int (-i)) := gUn h fun _ _ => .int _
theorem gCmpI {f : Int → Int → Bool} {i j : Int} (ha : GD ta σ S (.int i)) (hb : GD tb σ S (.int j)) : GD (tOp (rI0 fun i j => .bl (f i j)) ta tb) σ S (.bool (f i j)) := gI0 ha hb fun _ _ => .bl _
/-! subscripts -/
theorem gIxT {i : Int} (ha : GD ta σ S (.tuple ds)) (hb : GD tb σ S (.int i)) (h : atI ds i = some d) : GD (tOp (rIx K) ta tb) σ S d :=
  gOpD ha hb fun S2 x y a hx hy => by
    cases hy
    obtain ⟨p, xs, rfl, h1, h2⟩ := hx.tupE
    obtain ⟨x, e, hx⟩ := h2.atI h
    exact fun S3 H a b Q k => .inr (.inl ⟨p, xs, i, x, rfl, rfl, SqT.of (b _ _ (a _ _ h1)), e, k _ S3 H (Gr.refl b) (hx.mono a)⟩)
theorem gIxL {i : Int} (ha : GD ta σ S (.list ds)) (hb : GD tb σ S (.int i)) (h : atI ds i = some d) : GD (tOp (rIx K) ta tb) σ S d :=
  gOpD ha hb fun S2 x y a hx hy => by
    cases hy
    obtain ⟨p, xs, rfl, h1, h2⟩ := hx.lstE
    obtain ⟨x, e, hx⟩ := h2.atI h
    exact fun S3 H a b Q k => .inl ⟨p, xs, i, x, rfl, rfl, SqL.of (b _ _ (a _ _ h1)), e, k _ S3 H (Gr.refl b) (hx.mono a)⟩
theorem gIxS {i : Int} {z : Str} {c : Nat} (ha : GD ta σ S (.str z)) (hb : GD tb σ S (.int i)) (hz : z.length ≤ sizeLine) (h : atI z.cps.toList i = some c) : GD (tOp (rIx K) ta tb) σ S (.str ⟨#[c]⟩) :=
  gOpD ha hb fun S2 x y a hx hy => by
    cases hx
    cases hy
    exact fun S3 H a b Q k => .inr (.inr ⟨z, i, c, rfl, rfl, hz, h, k _ S3 H (Gr.refl b) (.str _)⟩)
/-- an item of a tuple told by its values -/
theorem gIxV {i : Int} {xs : List V} {x : V} (ha : Gv ta σ S fun S' v => ∃ a, v = .ref a ∧ S' a = some (.tup xs)) (hb : GD tb σ S (.int i)) (h : atI xs i = some x) (hr : ∀ S', Same S S' → R S' x) : Gv (tOp (rIx K) ta tb) σ S R :=
  gOp ha fun S1 v a hv => (hb.mono a).weak fun S2 y a2 hy => by
    cases hy
    obtain ⟨p, rfl, h1⟩ := hv
    exact fun S3 H a3 b Q k => .inr (.inl ⟨p, xs, i, x, rfl, rfl, SqT.of (b _ _ (a3 _ _ (a2 _ _ h1))), h, k _ S3 H (Gr.refl b) (hr _ (a.trans (a2.trans a3)))⟩)
def GO (t : TO) (σ : L2.St) (S : Hp) (o : Option Int) : Prop := ∀ S1 H, Same S S1 → Same S1 H → ∀ Q : Option Int → Hp → Prop, (∀ S' H', Gr [] S1 H S' H' → Q o H') → t σ H Q
theorem goNo : GO tNoPart σ S none := fun S1 H a b Q q => q S1 H (Gr.refl b)
theorem goPart {i : Int} (h : GD ta σ S (.int i)) : GO (tPart ta) σ S (some i) := fun S1 H a b Q q => h S1 H a b _ fun x S2 H2 g hx => by cases hx; exact ⟨i, rfl, q S2 H2 g⟩
theorem GO.mono {t : TO} {o : Option Int} (h : GO t σ S o) (e : Same S S') : GO t σ S' o := fun S1 H a b Q q => h S1 H (e.trans a) b Q q
theorem gSl {rs : V → Option Int → Option Int → Hp → VK → Prop} {tl th : TO} {lo hi : Option Int} (he : Gv te σ S R) (hl : GO tl σ S lo) (hh : GO th σ S hi)
    (hr : ∀ S2 x, Same S S2 → ∀ S1 H, Same S1 S2 → R S1 x → Same S2 H → ∀ Q : VK, (∀ v S' H', Gr [] S2 H S' H' → R' S' v → Q v H') → rs x lo hi H Q) : Gv (tSl rs te tl th) σ S R' := fun S1 H a b Q q =>
  he S1 H a b _ fun x S2 H2 g hx => hl S2 H2 (a.trans g.ss) g.sh _ fun S3 H3 g3 => hh S3 H3 ((a.trans g.ss).trans g3.ss) g3.sh _ fun S4 H4 g4 =>
    hr S4 x (((a.trans g.ss).trans g3.ss).trans g4.ss) S2 H4 (g3.ss.trans g4.ss) hx g4.sh Q fun v S5 H5 g5 hv => q v S5 H5 (g.trans (g3.trans (g4.trans g5))) hv
theorem gSlL {tl th : TO} {lo hi : Option Int} (he : GD te σ S (.list ds)) (hl : GO tl σ S lo) (hh : GO th σ S hi) : GD (tSl (rSl2 K) te tl th) σ S (.list (cutA ds lo hi)) :=
  gSl he hl hh fun S2 x a S1 H e hx b Q q => by
    obtain ⟨p, xs, rfl, h1, h2⟩ := hx.lstE
    exact .inl ⟨p, xs, rfl, SqL.of (b _ _ (e _ _ h1)), fun c hc => q _ _ _ (Gr.new b hc) (.lst upd_same ((h2.mono e).cut.mono (same_upd' (b.free hc))))⟩
theorem cutA_whole {α : Type} {xs : List α} {lo hi : Option Int} (h : HT.sIx xs.length 0 lo = 0 ∧ HT.sIx xs.length xs.length hi = xs.length) : cutA xs lo hi = xs := by
  unfold cutA
  rw [h.1, h.2]
  simp
theorem gSlT {tl th : TO} {lo hi : Option Int} (he : GD te σ S (.tuple ds)) (hl : GO tl σ S lo) (hh : GO th σ S hi) : GD (tSl (rSl2 K) te tl th) σ S (.tuple (cutA ds lo hi)) :=
  gSl he hl hh fun S2 x a S1 H e hx b Q q => by
    obtain ⟨p, xs, rfl, h1, h2⟩ := hx.tupE
    refine .inr ⟨p, xs, rfl, SqT.of (b _ _ (e _ _ h1)), fun hw => q _ S2 H (Gr.refl b) ?_, fun _ c hc => q _ _ _ (Gr.new b hc) (.tup upd_same ((h2.mono e).cut.mono (same_upd' (b.free hc))))⟩
    rw [cutA_whole (by rw [← h2.len]; exact hw)]
    exact .tup (e _ _ h1) (h2.mono e)
/-! equality -/
theorem gEqD {b : Bool} (ha : GD ta σ S d) (hb : GD tb σ S e) (s1 : SeqAt.shaped d = true) (s2 : SeqAt.shaped e = true) (h : PyData.eqv d e = b) : GD (tOp (rEqD K) ta tb) σ S (.bool b) :=
  gOpD ha hb fun S2 x y a hx hy S3 H a3 b3 Q k => ⟨d, e, ((hx.mono a3).mono b3).dp, ((hy.mono a3).mono b3).dp, s1, s2, k _ S3 H (Gr.refl b3) (by rw [h]; exact .bl _)⟩
theorem gNeD {b : Bool} (ha : GD ta σ S d) (hb : GD tb σ S e) (s1 : SeqAt.shaped d = true) (s2 : SeqAt.shaped e = true) (h : PyData.eqv d e = b) : GD (tOp (rNeD K) ta tb) σ S (.bool (!b)) :=
  gOpD ha hb fun S2 x y a hx hy S3 H a3 b3 Q k => ⟨d, e, ((hx.mono a3).mono b3).dp, ((hy.mono a3).mono b3).dp, s1, s2, k _ S3 H (Gr.refl b3) (by rw [h]; exact .bl _)⟩
/-! len, sum, all -/
def rLenA (K : PySem.W.Frag) : List V → Hp → VK → Prop := fun xs H Q => ∃ x n, xs = [x] ∧ LenV K x H n ∧ Q (.int n) H
theorem call_lenA {X : Cx} : CallR X (.builtin "len") (rLenA X.K) := call_len
theorem gLenL (h : GD ta σ S (.list ds)) : GD (tCB (rLenA K) (tCons ta tNil)) σ S (.int (ds.length : Int)) := gCB (ga1 h) fun S2 vs a hv S3 H a3 b Q k => by
  obtain ⟨v, rfl, hv⟩ := hv
  obtain ⟨p, xs, rfl, h1, h2⟩ := hv.lstE
  exact ⟨_, _, rfl, .inl ⟨xs, SqL.of (b _ _ (a3 _ _ h1)), h2.len.symm⟩, k _ S3 H (Gr.refl b) (.int _)⟩
theorem gLenT (h : GD ta σ S (.tuple ds)) : GD (tCB (rLenA K) (tCons ta tNil)) σ S (.int (ds.length : Int)) := gCB (ga1 h) fun S2 vs a hv S3 H a3 b Q k => by
  obtain ⟨v, rfl, hv⟩ := hv
  obtain ⟨p, xs, rfl, h1, h2⟩ := hv.tupE
  exact ⟨_, _, rfl, .inr ⟨xs, SqT.of (b _ _ (a3 _ _ h1)), h2.len.symm⟩, k _ S3 H (Gr.refl b) (.int _)⟩
theorem gLenS {z : Str} (h : GD ta σ S (.str z)) (hz : z.length ≤ sizeLine) : GD (tCB (rLenA K) (tCons ta tNil)) σ S (.int (z.length : Int)) := gCB (ga1 h) fun S2 vs a hv S3 H a3 b Q k => by
  obtain ⟨v, rfl, hv⟩ := hv
  cases hv
  exact ⟨_, _, rfl, ⟨hz, rfl⟩, k _ S3 H (Gr.refl b) (.int _)⟩
theorem gSum {ns : List Int} (h : GD ta σ S (.list (ns.map .int))) : GD (tCB (rSum K) (tCons ta tNil)) σ S (.int ns.sum) := gCB (ga1 h) fun S2 vs a hv S3 H a3 b Q k => by
  obtain ⟨v, rfl, hv⟩ := hv
  obtain ⟨p, xs, rfl, h1, h2⟩ := hv.lstE
  obtain rfl := h2.ints
  exact ⟨_, _, rfl, SqL.of (b _ _ (a3 _ _ h1)), k _ S3 H (Gr.refl b) (.int _)⟩
theorem gAll {bs : List Bool} (h : GD ta σ S (.list (bs.map .bool))) : GD (tCB (rAll K) (tCons ta tNil)) σ S (.bool (bs.all id)) := gCB (ga1 h) fun S2 vs a hv S3 H a3 b Q k => by
  obtain ⟨v, rfl, hv⟩ := hv
  obtain ⟨p, xs, rfl, h1, h2⟩ := hv.lstE
  obtain rfl := h2.bls
  exact ⟨_, _, rfl, SqL.of (b _ _ (a3 _ _ h1)), k _ S3 H (Gr.refl b) (.bl _)⟩
theorem gMinL {ns : List Int} (h : GD ta σ S (.list (ns.map .int))) (h0 : 0 < ns.length) (hr : ∀ S' m, Same S S' → m ∈ ns → (∀ y ∈ ns, m ≤ y) → R S' (.int m)) : Gv (tCB (rMin K) (tCons ta tNil)) σ S R := gCB (ga1 h) fun S2 vs a hv S3 H a3 b Q k => by
  obtain ⟨v, rfl, hv⟩ := hv
  obtain ⟨p, xs, rfl, h1, h2⟩ := hv.lstE
  obtain rfl := h2.ints
  exact ⟨_, _, rfl, SqL.of (b _ _ (a3 _ _ h1)), h0, fun m hm hle => k _ S3 H (Gr.refl b) (hr _ m (a.trans a3) hm hle)⟩
/-! dicts -/
def IsDK (kvs : List (Key × V)) (S : Hp) (v : V) : Prop := ∃ p, v = .ref p ∧ S p = some (.dK kvs)
def IsDT (kvs : List (List Key × V)) (S : Hp) (v : V) : Prop := ∃ p, v = .ref p ∧ S p = some (.dT kvs)
theorem dgetK {kvs : List (Key × V)} {k : Key} {p : Addr} {y : V} {H : Hp} (h : H p = some (.dK kvs)) (hk : DD S y (kD k)) : DGet H p y (valV kvs k) := by
  have : y = kV k := by
    cases k with
    | inl i => cases hk; rfl
    | inr z => cases hk; rfl
  rw [this]
  exact DGet.k h
theorem dgetT {kvs : List (List Key × V)} {k : List Key} {p : Addr} {y : V} {H : Hp} (e : Same S H) (h : H p = some (.dT kvs)) (hk : DD S y (.tuple (k.map kD))) : DGet H p y (valV kvs k) := by
  obtain ⟨b, xs, rfl, h1, h2⟩ := hk.tupE
  obtain rfl := h2.keys
  exact DGet.t h (e _ _ h1)
theorem gGetK {kvs : List (Key × V)} {k : Key} (hd : Gv ta σ S (IsDK kvs)) (hk : GD tb σ S (kD k)) (hr : ∀ S', Same S S' → R S' ((valV kvs k).getD .non)) : Gv (tDGet1 ta tb) σ S R := fun S1 H a b Q q =>
  hd S1 H a b _ fun x S2 H2 g hx => by
    obtain ⟨p, rfl, hp⟩ := hx
    refine ⟨p, rfl, .inl ⟨kvs, .inl (g.sh _ _ hp)⟩, hk S2 H2 (a.trans g.ss) g.sh _ fun y S3 H3 g3 hy => ⟨_, dgetK (g3.same _ _ (g.sh _ _ hp)) hy, q _ S3 H3 (g.trans g3) (hr _ ((a.trans g.ss).trans g3.ss))⟩⟩
theorem gGetT {kvs : List (List Key × V)} {k : List Key} (hd : Gv ta σ S (IsDT kvs)) (hk : GD tb σ S (.tuple (k.map kD))) (hr : ∀ S', Same S S' → R S' ((valV kvs k).getD .non)) : Gv (tDGet1 ta tb) σ S R := fun S1 H a b Q q =>
  hd S1 H a b _ fun x S2 H2 g hx => by
    obtain ⟨p, rfl, hp⟩ := hx
    refine ⟨p, rfl, .inr ⟨kvs, .inl (g.sh _ _ hp)⟩, hk S2 H2 (a.trans g.ss) g.sh _ fun y S3 H3 g3 hy => ⟨_, dgetT g3.sh (g3.same _ _ (g.sh _ _ hp)) hy, q _ S3 H3 (g.trans g3) (hr _ ((a.trans g.ss).trans g3.ss))⟩⟩
theorem gGetT2 {kvs : List (List Key × V)} {k : List Key} (hd : Gv ta σ S (IsDT kvs)) (hk : GD tb σ S (.tuple (k.map kD))) (hx : GD tc σ S .none) (hr : ∀ S', Same S S' → R S' ((valV kvs k).getD .non)) : Gv (tDGet2 ta tb tc) σ S R := fun S1 H a b Q q =>
  hd S1 H a b _ fun x S2 H2 g hx1 => by
    obtain ⟨p, rfl, hp⟩ := hx1
    refine ⟨p, rfl, .inr ⟨kvs, .inl (g.sh _ _ hp)⟩, hk S2 H2 (a.trans g.ss) g.sh _ fun y S3 H3 g3 hy => hx S3 H3 ((a.trans g.ss).trans g3.ss) g3.sh _ fun z S4 H4 g4 hz => ?_⟩
    cases hz
    exact ⟨_, dgetT g4.sh (g4.same _ _ (g3.same _ _ (g.sh _ _ hp))) (hy.mono g4.ss), q _ S4 H4 (g.trans (g3.trans g4)) (hr _ (((a.trans g.ss).trans g3.ss).trans g4.ss))⟩
theorem gAtK {kvs : List (Key × V)} {k : Key} {w : V} (hd : Gv ta σ S (IsDK kvs)) (hk : GD tb σ S (kD k)) (hw : valV kvs k = some w) (hr : ∀ S', Same S S' → R S' w) : Gv (tDGet ta tb) σ S R := fun S1 H a b Q q =>
  hd S1 H a b _ fun x S2 H2 g hx => by
    obtain ⟨p, rfl, hp⟩ := hx
    exact hk S2 H2 (a.trans g.ss) g.sh _ fun y S3 H3 g3 hy => ⟨p, w, rfl, hw ▸ dgetK (g3.same _ _ (g.sh _ _ hp)) hy, q _ S3 H3 (g.trans g3) (hr _ ((a.trans g.ss).trans g3.ss))⟩
theorem gAtT {kvs : List (List Key × V)} {k : List Key} {w : V} (hd : Gv ta σ S (IsDT kvs)) (hk : GD tb σ S (.tuple (k.map kD))) (hw : valV kvs k = some w) (hr : ∀ S', Same S S' → R S' w) : Gv (tDGet ta tb) σ S R := fun S1 H a b Q q =>
  hd S1 H a b _ fun x S2 H2 g hx => by
    obtain ⟨p, rfl, hp⟩ := hx
    exact hk S2 H2 (a.trans g.ss) g.sh _ fun y S3 H3 g3 hy => ⟨p, w, rfl, hw ▸ dgetT g3.sh (g3.same _ _ (g.sh _ _ hp)) hy, q _ S3 H3 (g.trans g3) (hr _ ((a.trans g.ss).trans g3.ss))⟩
theorem gInK {kvs : List (Key × V)} {k : Key} (hk : GD tb σ S (kD k)) (hd : Gv ta σ S (IsDK kvs)) : GD (tDIn tb ta) σ S (.bool (valV kvs k).isSome) := fun S1 H a b Q q =>
  hk S1 H a b _ fun y S2 H2 g hy => hd S2 H2 (a.trans g.ss) g.sh _ fun x S3 H3 g3 hx => by
    obtain ⟨p, rfl, hp⟩ := hx
    exact ⟨p, _, rfl, dgetK (g3.sh _ _ hp) hy, q _ S3 H3 (g.trans g3) (.bl _)⟩
/-! own defs: a promise over what stands still -/
def spP (R : Hp → List V → (Hp → V → Prop) → Prop) : Sp := fun vs H Q _ => ∃ S Post, Same S H ∧ R S vs Post ∧ ∀ v S' H', Gr [] S H S' H' → Post S' v → Q v H'
theorem gCall {RP : Hp → List V → (Hp → V → Prop) → Prop} {E : XK} (h : GA t σ S fun S' vs => RP S' vs R) : Gv (tCall (spP RP) [] E t) σ S R := fun S1 H a b Q q =>
  h S1 H a b _ fun vs S2 H2 g hv => by
    show spP RP (vs ++ []) H2 Q E
    rw [List.append_nil]
    exact ⟨S2, R, g.sh, hv, fun v S3 H3 g3 hv3 => q v S3 H3 (g.trans g3) hv3⟩
end
end PF
-- part PfF
set_option Elab.async false
set_option linter.all false
set_option maxRecDepth 100000
set_option maxHeartbeats 4000000
/-! comprehensions, loops, targets over data -/
namespace PF
open PySem PySem.Spec PyProof.Rows L2
theorem Gr.hide {ex : List Addr} {S H S1 H1 : Hp} {p : Addr} {o : HO} (g : Gr ex S H S1 H1) (n : S p = none) (e : H p = some o) (ho : ∀ xs, o ≠ .tup xs := by intro xs z; cases z) : S1 p = none := g.hid p n (by rw [e]; exact ⟨by simp, fun xs z => ho xs (Option.some.inj z)⟩)
theorem irange_get {a b : Int} {i : Nat} (h : i < (b - a).toNat) : (irange a b)[i]? = some (a + (i : Int)) := by
  unfold irange
  rw [List.getElem?_map, List.getElem?_range h]
  rfl
theorem irange_len {a b : Int} : (irange a b).length = (b - a).toNat := by
  unfold irange
  rw [List.length_map, List.length_range]
theorem map_get {α β : Type} {f : α → β} {l : List α} {i : Nat} {y : β} (h : (l.map f)[i]? = some y) : ∃ x, l[i]? = some x ∧ y = f x := by
  rw [List.getElem?_map] at h
  obtain ⟨x, h1, h2⟩ := Option.map_eq_some_iff.mp h
  exact ⟨x, h1, h2.symm⟩
theorem take_filter {α β : Type} {f : α → β} {p : α → Bool} {l : List α} {i : Nat} {x : α} (h : l[i]? = some x) :
    ((l.take (i + 1)).filter p).map f = ((l.take i).filter p).map f ++ (if p x = true then [f x] else []) := by
  rw [List.take_add_one, h, List.filter_append, List.map_append]
  congr 1
  show List.map f (List.filter p [x]) = _
  by_cases hp : p x = true
  · rw [List.filter_cons, if_pos hp, if_pos hp]; rfl
  · rw [List.filter_cons, if_neg hp, if_neg hp]; rfl
section
variable {K : PySem.W.Frag} {σ : L2.St} {S S' H : Hp} {ta tb te tc tl : TE} {tt tu : TT} {t : TA} {v : V} {d e d3 d4 : PyData} {ds es : List PyData} {R R' R2' : Hp → V → Prop} {r : R2} {D : Ends} {vs : List Nat} {g : TG}
/-! ### targets -/
theorem gt2 {i j : Nat} {Q : L2.St → Hp → Prop} (h : DD S v (.tuple [d, e])) (sS : Same S H) (q : ∀ x y, DD S x d → DD S y e → Q ((σ.set i (some x)).set j (some y)) H) : gTup K 2 (gCons (gName i) (gCons (gName j) gNil)) v σ H Q := by
  obtain ⟨a, xs, rfl, h1, h2⟩ := h.tupE
  obtain ⟨x, r, rfl, hx, h2⟩ := h2.consE
  obtain ⟨y, r, rfl, hy, h2⟩ := h2.consE
  cases h2
  exact ⟨a, _, rfl, SqT.of (sS _ _ h1), rfl, x, _, rfl, y, _, rfl, rfl, q x y hx hy⟩
theorem gt3 {i j k : Nat} {Q : L2.St → Hp → Prop} (h : DD S v (.tuple [d, e, d3])) (sS : Same S H) (q : ∀ x y z, DD S x d → DD S y e → DD S z d3 → Q (((σ.set i (some x)).set j (some y)).set k (some z)) H) :
    gTup K 3 (gCons (gName i) (gCons (gName j) (gCons (gName k) gNil))) v σ H Q := by
  obtain ⟨a, xs, rfl, h1, h2⟩ := h.tupE
  obtain ⟨x, r, rfl, hx, h2⟩ := h2.consE
  obtain ⟨y, r, rfl, hy, h2⟩ := h2.consE
  obtain ⟨z, r, rfl, hz, h2⟩ := h2.consE
  cases h2
  exact ⟨a, _, rfl, SqT.of (sS _ _ h1), rfl, x, _, rfl, y, _, rfl, z, _, rfl, rfl, q x y z hx hy hz⟩
theorem gt4 {i j k m : Nat} {Q : L2.St → Hp → Prop} (h : DD S v (.tuple [d, e, d3, d4])) (sS : Same S H) (q : ∀ x y z w, DD S x d → DD S y e → DD S z d3 → DD S w d4 → Q ((((σ.set i (some x)).set j (some y)).set k (some z)).set m (some w)) H) :
    gTup K 4 (gCons (gName i) (gCons (gName j) (gCons (gName k) (gCons (gName m) gNil)))) v σ H Q := by
  obtain ⟨a, xs, rfl, h1, h2⟩ := h.tupE
  obtain ⟨x, r, rfl, hx, h2⟩ := h2.consE
  obtain ⟨y, r, rfl, hy, h2⟩ := h2.consE
  obtain ⟨z, r, rfl, hz, h2⟩ := h2.consE
  obtain ⟨w, r, rfl, hw, h2⟩ := h2.consE
  cases h2
  exact ⟨a, _, rfl, SqT.of (sS _ _ h1), rfl, x, _, rfl, y, _, rfl, z, _, rfl, w, _, rfl, rfl, q x y z w hx hy hz hw⟩
/-! ### comprehensions -/
/-- what one turn of a comprehension is asked -/
def Turn1 (σ : L2.St) (vs : List Nat) (g : TG) (tt : TT) (te : TE) (S1 : Hp) (v : V) (p : Bool) (f : PyData) : Prop :=
  ∃ σ2, (∀ (H : Hp) (Q : L2.St → Hp → Prop), Same S1 H → Q σ2 H → g v (wipe σ vs) H Q) ∧ wipe σ2 vs = wipe σ vs ∧ GT tt σ2 S1 p ∧ (p = true → GD te σ2 S1 f)
/-- the target is a name -/
theorem turnN {j : Nat} {S1 : Hp} {p : Bool} {f : PyData} (hw : wipe ((wipe σ vs).set j (some v)) vs = wipe σ vs) (ht : GT tt ((wipe σ vs).set j (some v)) S1 p) (he : p = true → GD te ((wipe σ vs).set j (some v)) S1 f) : Turn1 σ vs (gName j) tt te S1 v p f :=
  ⟨_, fun H Q _ q => q, hw, ht, he⟩
def LcI {α : Type} (l : List α) (p : α → Bool) (f : α → PyData) (Dl : Addr) (S2 H2 : Hp) (i : Nat) (H' : Hp) : Prop :=
  ∃ S' acc, Gr [Dl] S2 (upd H2 Dl (.lst [])) S' H' ∧ S' Dl = none ∧ H' Dl = some (.lst acc) ∧ DDs S' acc (((l.take i).filter p).map f)
theorem LcI.start {α : Type} {l : List α} {p : α → Bool} {f : α → PyData} {Dl : Addr} {S2 H2 : Hp} (h : Same S2 H2) (n : H2 Dl = none) : LcI l p f Dl S2 H2 0 (upd H2 Dl (.lst [])) :=
  ⟨S2, [], Gr.refl (Gr.priv h n).sh, h.free n, upd_same, by simpa using DDs.nil⟩
theorem LcI.turn {α : Type} {l : List α} {p : α → Bool} {f : α → PyData} {Dl : Addr} {S2 H2 H' : Hp} {i : Nat} {x : α} (hp : LcI l p f Dl S2 H2 i H') (hx : l[i]? = some x) (hz : l.length ≤ sizeLine)
    (hs : ∀ S1, Same S2 S1 → Turn1 σ vs g tt te S1 v (p x) (f x)) :
    g v (wipe σ vs) H' fun σ2 H2' => wipe σ2 vs = wipe σ vs ∧ tt σ2 H2' fun b H3 => if b = true then te σ2 H3 fun y H4 => ∃ acc, H4 Dl = some (.lst acc) ∧ acc.length < sizeLine ∧ LcI l p f Dl S2 H2 (i + 1) (upd H4 Dl (.lst (acc ++ [y]))) else LcI l p f Dl S2 H2 (i + 1) H3 := by
  obtain ⟨S', acc, gr, n, e, hacc⟩ := hp
  obtain ⟨σ2, hg, hw, ht, he⟩ := hs S' gr.ss
  refine hg H' _ gr.sh ⟨hw, ht.run gr.sh fun S3 H3 g3 => ?_⟩
  have n3 := g3.hide n e
  have e3 := g3.same _ _ e
  have hl : acc.length < sizeLine := by
    have h1 := hacc.len
    rw [List.length_map] at h1
    have h2 := List.length_filter_le p (l.take i)
    have h3 : (l.take i).length ≤ i := by rw [List.length_take]; omega
    have h4 := (List.getElem?_eq_some_iff.mp hx).1
    omega
  cases hb : p x with
  | true =>
    refine iteT ((he hb).mono g3.ss |>.run g3.sh fun y S4 H4 g4 hy => ?_)
    have n4 := g4.hide n3 e3
    have e4 := g4.same _ _ e3
    refine ⟨acc, e4, hl, S4, acc ++ [y], ((gr.trans g3.up0).trans g4.up0).put (by simp) n4, n4, upd_same, ?_⟩
    rw [take_filter hx, if_pos hb]
    exact ((hacc.mono g3.ss).mono g4.ss).snoc hy
  | false =>
    refine iteF ⟨S3, acc, gr.trans g3.up0, n3, e3, ?_⟩
    rw [take_filter hx, if_neg (by rw [hb]; exact Bool.false_ne_true), List.append_nil]
    exact hacc.mono g3.ss
theorem LcI.done {α : Type} {l : List α} {p : α → Bool} {f : α → PyData} {Dl : Addr} {S1 H S2 H2 H' : Hp} {Q : VK} {n : Nat} (hp : LcI l p f Dl S2 H2 n H') (hn : n = l.length) (g : Gr [] S1 H S2 H2) (hD : H2 Dl = none)
    (q : ∀ v S' H', Gr [] S1 H S' H' → DD S' v (.list ((l.filter p).map f)) → Q v H') : Q (.ref Dl) H' := by
  obtain ⟨S', acc, gr, n', e, hacc⟩ := hp
  subst hn
  rw [List.take_length] at hacc
  exact q _ _ _ (g.trans ((Gr.over1 (Gr.priv g.sh hD) gr hD).tell hD n' e)) (.lst upd_same (hacc.mono (same_upd' n')))
theorem gLc {α : Type} (l : List α) (enc : α → PyData) (p : α → Bool) (f : α → PyData) (hl : GD tl σ S (.list (l.map enc))) (hz : l.length ≤ sizeLine)
    (hs : ∀ x ∈ l, ∀ v S1, Same S S1 → DD S1 v (enc x) → Turn1 σ vs g tt te S1 v (p x) (f x)) : GD (tLc (iList K tl) g tt te vs) σ S (.list ((l.filter p).map f)) := fun S1 H a b Q q =>
  hl S1 H a b _ fun x S2 H2 g2 hx => by
    obtain ⟨A, xs, rfl, h1, h2⟩ := hx.lstE
    refine ⟨A, rfl, ⟨xs, SqL.of (g2.sh _ _ h1)⟩, fun Dl hD => ?_⟩
    refine lc_list (xs := xs) (LcI l p f Dl S2 H2) (LcI.start g2.sh hD) (fun i H' _ hp => ?_) (fun i x H' hx hp => ?_) fun H' hp => hp.done (by rw [h2.len, List.length_map]) g2 hD q
    · obtain ⟨S', acc, gr, _⟩ := hp
      exact SqL.of (gr.sh _ _ (gr.ss _ _ h1))
    · obtain ⟨d, hd, hv⟩ := h2.get hx
      obtain ⟨z, hz', rfl⟩ := map_get hd
      exact hp.turn hz' hz fun S4 s4 => hs z (List.mem_of_getElem? hz') x S4 ((a.trans g2.ss).trans s4) (hv.mono s4)
theorem gLcT {α : Type} (l : List α) (enc : α → PyData) (p : α → Bool) (f : α → PyData) (hl : Gv tl σ S fun S' v => ∃ a xs, v = .ref a ∧ (∀ H, Same S' H → SqT K H a xs) ∧ DDs S' xs (l.map enc)) (hz : l.length ≤ sizeLine)
    (hs : ∀ x ∈ l, ∀ v S1, Same S S1 → DD S1 v (enc x) → Turn1 σ vs g tt te S1 v (p x) (f x)) : GD (tLc (iTup K tl) g tt te vs) σ S (.list ((l.filter p).map f)) := fun S1 H a b Q q =>
  hl S1 H a b _ fun x S2 H2 g2 hx => by
    obtain ⟨A, xs, rfl, h1, h2⟩ := hx
    refine ⟨A, rfl, ⟨xs, h1 _ g2.sh⟩, fun Dl hD => ?_⟩
    refine lc_tup (xs := xs) (LcI l p f Dl S2 H2) (LcI.start g2.sh hD) (fun i H' _ hp => ?_) (fun i x H' hx hp => ?_) fun H' hp => hp.done (by rw [h2.len, List.length_map]) g2 hD q
    · obtain ⟨S', acc, gr, _⟩ := hp
      exact h1 _ (gr.ss.trans gr.sh)
    · obtain ⟨d, hd, hv⟩ := h2.get hx
      obtain ⟨z, hz', rfl⟩ := map_get hd
      exact hp.turn hz' hz fun S4 s4 => hs z (List.mem_of_getElem? hz') x S4 ((a.trans g2.ss).trans s4) (hv.mono s4)
theorem tupS {S' : Hp} {ds : List PyData} (h : DD S' v (.tuple ds)) : ∃ a xs, v = .ref a ∧ (∀ H, Same S' H → SqT K H a xs) ∧ DDs S' xs ds := by
  obtain ⟨a, xs, rfl, h1, h2⟩ := h.tupE
  exact ⟨a, xs, rfl, fun H e => SqT.of (e _ _ h1), h2⟩
def Sm (n : Int) : Prop := -(2 ^ 62) ≤ n ∧ n < 2 ^ 62
theorem gLcR2 {lo hi : Int} (p : Int → Bool) (f : Int → PyData) (hl : GDs t σ S [.int lo, .int hi]) (h1 : Sm lo) (h2 : Sm hi) (hz : (hi - lo).toNat ≤ sizeLine)
    (hs : ∀ x, lo ≤ x → x < hi → ∀ S1, Same S S1 → Turn1 σ vs g tt te S1 (.int x) (p x) (f x)) : GD (tLc (iRng2 t) g tt te vs) σ S (.list (((irange lo hi).filter p).map f)) := fun S1 H a b Q q =>
  hl S1 H a b _ fun x S2 H2 g2 hx => by
    obtain ⟨y, r, rfl, hy, hx⟩ := hx.consE
    obtain ⟨z, r, rfl, hz', hx⟩ := hx.consE
    cases hx; cases hy; cases hz'
    refine ⟨lo, hi, rfl, ⟨h1.1, h1.2, h2.1, h2.2⟩, fun Dl hD => ?_⟩
    refine lc_range (LcI (irange lo hi) p f Dl S2 H2) (LcI.start g2.sh hD) (fun i H' hi' hp => ?_) fun H' hp => hp.done (by rw [irange_len]) g2 hD q
    exact hp.turn (irange_get hi') (by rw [irange_len]; exact hz) fun S4 s4 => hs _ (by omega) (by omega) S4 ((a.trans g2.ss).trans s4)
theorem gLcR1 {hi : Int} (p : Int → Bool) (f : Int → PyData) (hl : GDs t σ S [.int hi]) (h2 : Sm hi) (hz : hi.toNat ≤ sizeLine)
    (hs : ∀ x, 0 ≤ x → x < hi → ∀ S1, Same S S1 → Turn1 σ vs g tt te S1 (.int x) (p x) (f x)) : GD (tLc (iRng1 t) g tt te vs) σ S (.list (((irange 0 hi).filter p).map f)) := fun S1 H a b Q q =>
  hl S1 H a b _ fun x S2 H2 g2 hx => by
    obtain ⟨y, r, rfl, hy, hx⟩ := hx.consE
    cases hx; cases hy
    have e0 : (hi - 0).toNat = hi.toNat := by omega
    refine ⟨hi, rfl, h2.1, h2.2, fun Dl hD => ?_⟩
    refine lc_range (LcI (irange 0 hi) p f Dl S2 H2) (LcI.start g2.sh hD) (fun i H' hi' hp => ?_) fun H' hp => hp.done (by rw [irange_len, e0]) g2 hD q
    exact hp.turn (irange_get (by rw [e0]; exact hi')) (by rw [irange_len, e0]; exact hz) fun S4 s4 => hs _ (by omega) (by omega) S4 ((a.trans g2.ss).trans s4)
/-! ### loops -/
def NI (ex : List Addr) (I : L2.St → Hp → Hp → Prop) (S' H' : Hp) : L2.St → Hp → Prop := fun σ3 H3 => ∃ S3, Gr ex S' H' S3 H3 ∧ I σ3 S3 H3
def LpI (ex : List Addr) (S H : Hp) (I : Nat → L2.St → Hp → Hp → Prop) (S1 : Hp) (i : Nat) (σ' : L2.St) (H' : Hp) : Prop := ∃ S', Gr ex S H S' H' ∧ Same S1 S' ∧ I i σ' S' H'
theorem TSmono {tb : TS} {D : Ends} {N N' : L2.St → Hp → Prop} (h : N = N') {σ : L2.St} {H : Hp} (q : tb { D with nx := N, ct := N, bk := D.nx } σ H) : tb { D with nx := N', ct := N', bk := D.nx } σ H := h ▸ q
theorem fForL {α : Type} {ts : TS} (ex : List Addr) (l : List α) (enc : α → PyData) (I : Nat → L2.St → Hp → Hp → Prop) (hl : GD tl σ S (.list (l.map enc))) (sS : Same S H)
    (h0 : ∀ S1 H1, Gr [] S H S1 H1 → I 0 σ S1 H1)
    (hs : ∀ i x v σ' S' H' (N : L2.St → Hp → Prop), l[i]? = some x → Gr ex S H S' H' → DD S' v (enc x) → I i σ' S' H' → (∀ σ3 S3 H3, Gr ex S' H' S3 H3 → I (i + 1) σ3 S3 H3 → N σ3 H3) →
      g v σ' H' fun σ2 H2 => ts { D with nx := N, ct := N, bk := D.nx } σ2 H2)
    (hd : ∀ σ' S' H', Gr ex S H S' H' → I l.length σ' S' H' → D.nx σ' H') : tFor (iList K tl) g ts D σ H :=
  hl.run sS fun v S1 H1 g1 hv => by
    obtain ⟨A, xs, rfl, h1, h2⟩ := hv.lstE
    refine ⟨A, rfl, ⟨xs, SqL.of (g1.sh _ _ h1)⟩, for_list (xs := xs) (LpI ex S H I S1) ⟨S1, g1.up0, Same.refl _, h0 _ _ g1⟩ (fun i σ' H' _ hp => ?_) (fun i x σ' H' hx hp => ?_) fun σ' H' hp => ?_⟩
    · obtain ⟨S', gr, s, _⟩ := hp
      exact SqL.of (gr.sh _ _ (s _ _ h1))
    · obtain ⟨S', gr, s, hI⟩ := hp
      obtain ⟨d, hd', hv⟩ := h2.get hx
      obtain ⟨z, hz', rfl⟩ := map_get hd'
      exact hs i z x σ' S' H' _ hz' gr (hv.mono s) hI fun σ3 S3 H3 g3 h3 => ⟨S3, gr.trans g3, s.trans g3.ss, h3⟩
    · obtain ⟨S', gr, s, hI⟩ := hp
      rw [h2.len, List.length_map] at hI
      exact hd σ' S' H' gr hI
theorem fForT {α : Type} {ts : TS} (ex : List Addr) (l : List α) (enc : α → PyData) (I : Nat → L2.St → Hp → Hp → Prop) (hl : Gv tl σ S fun S' v => ∃ a xs, v = .ref a ∧ (∀ H, Same S' H → SqT K H a xs) ∧ DDs S' xs (l.map enc)) (sS : Same S H)
    (h0 : ∀ S1 H1, Gr [] S H S1 H1 → I 0 σ S1 H1)
    (hs : ∀ i x v σ' S' H' (N : L2.St → Hp → Prop), l[i]? = some x → Gr ex S H S' H' → DD S' v (enc x) → I i σ' S' H' → (∀ σ3 S3 H3, Gr ex S' H' S3 H3 → I (i + 1) σ3 S3 H3 → N σ3 H3) →
      g v σ' H' fun σ2 H2 => ts { D with nx := N, ct := N, bk := D.nx } σ2 H2)
    (hd : ∀ σ' S' H', Gr ex S H S' H' → I l.length σ' S' H' → D.nx σ' H') : tFor (iTup K tl) g ts D σ H :=
  hl.run sS fun v S1 H1 g1 hv => by
    obtain ⟨A, xs, rfl, h1, h2⟩ := hv
    refine ⟨A, rfl, ⟨xs, h1 _ g1.sh⟩, for_tup (xs := xs) (LpI ex S H I S1) ⟨S1, g1.up0, Same.refl _, h0 _ _ g1⟩ (fun i σ' H' _ hp => ?_) (fun i x σ' H' hx hp => ?_) fun σ' H' hp => ?_⟩
    · obtain ⟨S', gr, s, _⟩ := hp
      exact h1 _ (s.trans gr.sh)
    · obtain ⟨S', gr, s, hI⟩ := hp
      obtain ⟨d, hd', hv⟩ := h2.get hx
      obtain ⟨z, hz', rfl⟩ := map_get hd'
      exact hs i z x σ' S' H' _ hz' gr (hv.mono s) hI fun σ3 S3 H3 g3 h3 => ⟨S3, gr.trans g3, s.trans g3.ss, h3⟩
    · obtain ⟨S', gr, s, hI⟩ := hp
      rw [h2.len, List.length_map] at hI
      exact hd σ' S' H' gr hI
theorem fForR2 {ts : TS} {lo hi : Int} (ex : List Addr) (I : Nat → L2.St → Hp → Hp → Prop) (hl : GDs t σ S [.int lo, .int hi]) (n1 : Sm lo) (n2 : Sm hi) (sS : Same S H)
    (h0 : ∀ S1 H1, Gr [] S H S1 H1 → I 0 σ S1 H1)
    (hs : ∀ (i : Nat) σ' S' H' (N : L2.St → Hp → Prop), lo + (i : Int) < hi → Gr ex S H S' H' → I i σ' S' H' → (∀ σ3 S3 H3, Gr ex S' H' S3 H3 → I (i + 1) σ3 S3 H3 → N σ3 H3) →
      g (.int (lo + i)) σ' H' fun σ2 H2 => ts { D with nx := N, ct := N, bk := D.nx } σ2 H2)
    (hd : ∀ σ' S' H', Gr ex S H S' H' → I (hi - lo).toNat σ' S' H' → D.nx σ' H') : tFor (iRng2 t) g ts D σ H :=
  hl S H (Same.refl _) sS _ fun v S1 H1 g1 hv => by
    obtain ⟨y, r, rfl, hy, hx⟩ := hv.consE
    obtain ⟨z, r, rfl, hz', hx⟩ := hx.consE
    cases hx; cases hy; cases hz'
    refine ⟨lo, hi, rfl, ⟨n1.1, n1.2, n2.1, n2.2⟩, for_range (LpI ex S H I S1) ⟨S1, g1.up0, Same.refl _, h0 _ _ g1⟩ (fun i σ' H' hi' hp => ?_) fun σ' H' hp => ?_⟩
    · obtain ⟨S', gr, s, hI⟩ := hp
      exact hs i σ' S' H' _ (by omega) gr hI fun σ3 S3 H3 g3 h3 => ⟨S3, gr.trans g3, s.trans g3.ss, h3⟩
    · obtain ⟨S', gr, s, hI⟩ := hp
      exact hd σ' S' H' gr hI
theorem fForR1 {ts : TS} {hi : Int} (ex : List Addr) (I : Nat → L2.St → Hp → Hp → Prop) (hl : GDs t σ S [.int hi]) (n2 : Sm hi) (sS : Same S H)
    (h0 : ∀ S1 H1, Gr [] S H S1 H1 → I 0 σ S1 H1)
    (hs : ∀ (i : Nat) σ' S' H' (N : L2.St → Hp → Prop), (i : Int) < hi → Gr ex S H S' H' → I i σ' S' H' → (∀ σ3 S3 H3, Gr ex S' H' S3 H3 → I (i + 1) σ3 S3 H3 → N σ3 H3) →
      g (.int (0 + i)) σ' H' fun σ2 H2 => ts { D with nx := N, ct := N, bk := D.nx } σ2 H2)
    (hd : ∀ σ' S' H', Gr ex S H S' H' → I hi.toNat σ' S' H' → D.nx σ' H') : tFor (iRng1 t) g ts D σ H :=
  hl S H (Same.refl _) sS _ fun v S1 H1 g1 hv => by
    obtain ⟨y, r, rfl, hy, hx⟩ := hv.consE
    cases hx; cases hy
    refine ⟨hi, rfl, n2.1, n2.2, for_range (LpI ex S H I S1) ⟨S1, g1.up0, Same.refl _, h0 _ _ g1⟩ (fun i σ' H' hi' hp => ?_) fun σ' H' hp => ?_⟩
    · obtain ⟨S', gr, s, hI⟩ := hp
      exact hs i σ' S' H' _ (by omega) gr hI fun σ3 S3 H3 g3 h3 => ⟨S3, gr.trans g3, s.trans g3.ss, h3⟩
    · obtain ⟨S', gr, s, hI⟩ := hp
      exact hd σ' S' H' gr hI
/-! ### statements -/
theorem sIf {b : Bool} {tw tz : TS} (h : GT tt σ S b) (sS : Same S H) (h1 : b = true → ∀ S' H', Gr [] S H S' H' → tw D σ H') (h2 : b = false → ∀ S' H', Gr [] S H S' H' → tz D σ H') : tIfS tt tw tz D σ H :=
  h.run sS fun S' H' g => by
    cases b with
    | true => exact iteT (h1 rfl S' H' g)
    | false => exact iteF (h2 rfl S' H' g)
/-- xs.append(e) at a hidden list -/
theorem sApp {l : Addr} {xs : List V} (hl : Gv ta σ S fun _ v => v = .ref l) (he : GD te σ S d) (sS : Same S H) (n : S l = none) (el : H l = some (.lst xs)) (hz : xs.length < sizeLine)
    (q : ∀ y S' H', Gr [] S H S' H' → Gr [l] S H S' (upd H' l (.lst (xs ++ [y]))) → DD S' y d → S' l = none → D.nx σ (upd H' l (.lst (xs ++ [y])))) :
    tDrop (tBM K "list" rAppend ta (tCons te tNil)) D σ H :=
  hl.run sS fun v S1 H1 g1 hv => by
    subst hv
    have n1 := g1.hide n el
    have e1 := g1.same _ _ el
    refine ⟨.inl ⟨rfl, _, SqL.of e1⟩, (he.mono g1.ss).run g1.sh fun y S2 H2 g2 hy => ?_⟩
    have n2 := g2.hide n1 e1
    have e2 := g2.same _ _ e1
    exact ⟨l, xs, y, rfl, rfl, e2, hz, q y S2 H2 (g1.trans g2) ((g1.trans g2).up0.put (by simp) n2) hy n2⟩
/-- xs.extend(ys) at a hidden list, ys a list of data -/
theorem sExt {l : Addr} {xs : List V} (hl : Gv ta σ S fun _ v => v = .ref l) (he : GD te σ S (.list ds)) (sS : Same S H) (n : S l = none) (el : H l = some (.lst xs)) (hz : xs.length + ds.length ≤ sizeLine)
    (q : ∀ ys S' H', Gr [l] S H S' (upd H' l (.lst (xs ++ ys))) → DDs S' ys ds → S' l = none → D.nx σ (upd H' l (.lst (xs ++ ys)))) :
    tDrop (tBM K "list" rExtend ta (tCons te tNil)) D σ H :=
  hl.run sS fun v S1 H1 g1 hv => by
    subst hv
    have n1 := g1.hide n el
    have e1 := g1.same _ _ el
    refine ⟨.inl ⟨rfl, _, SqL.of e1⟩, (he.mono g1.ss).run g1.sh fun y S2 H2 g2 hy => ?_⟩
    have n2 := g2.hide n1 e1
    have e2 := g2.same _ _ e1
    obtain ⟨b, ys, rfl, h1, h2⟩ := hy.lstE
    exact ⟨l, b, xs, ys, rfl, rfl, e2, g2.sh _ _ h1, by rw [h2.len]; exact hz, q ys S2 H2 ((g1.trans g2).up0.put (by simp) n2) h2 n2⟩
end
end PF
namespace PF
open PySem PySem.Spec PyProof.Rows L2
section
variable {K : PySem.W.Frag} {σ : L2.St} {S S' H : Hp} {te : TE} {R : Hp → V → Prop} {D : Ends}
theorem sAsg {i : Nat} (h : Gv te σ S R) (sS : Same S H) (q : ∀ v S' H', Gr [] S H S' H' → R S' v → D.nx (σ.set i (some v)) H') : tAsg te (gName i) D σ H := h.run sS q
theorem sRet (h : Gv te σ S R) (sS : Same S H) (q : ∀ v S' H', Gr [] S H S' H' → R S' v → D.rt v H') : tRet te D σ H := h.run sS q
theorem sDrop (h : Gv te σ S R) (sS : Same S H) (q : ∀ v S' H', Gr [] S H S' H' → R S' v → D.nx σ H') : tDrop te D σ H := h.run sS q
/-- any target -/
theorem sAsgG {g : TG} (h : Gv te σ S R) (sS : Same S H) (q : ∀ v S' H', Gr [] S H S' H' → R S' v → g v σ H' D.nx) : tAsg te g D σ H := h.run sS q
end
end PF
-- part PfBase
set_option Elab.async false
set_option linter.all false
set_option maxRecDepth 100000
set_option maxHeartbeats 4000000
/-! defs that keep their promises, built-in names -/
namespace PF
open PySem PySem.Spec PyProof.Rows L2
structure BI (mg : Str → Option Value) : Prop where
  len : mg "len" = none
  dict : mg "dict" = none
  list : mg "list" = none
  zip : mg "zip" = none
  range : mg "range" = none
  sorted : mg "sorted" = none
  min : mg "min" = none
  max : mg "max" = none
  sum : mg "sum" = none
  all : mg "all" = none
  abs : mg "abs" = none
  isinstance : mg "isinstance" = none
  int : mg "int" = none
  tuple : mg "tuple" = none
  str : mg "str" = none
  bool : mg "bool" = none
/-- the def of this name keeps this promise -/
def Ok (P : Program) (w : World) (K : PySem.W.Frag) (mg : Str → Option Value) (base : Heap) (x : Str) (ps : List Str) (k : Nat) (sp : Sp) : Prop :=
  ∃ f fd, FnOk P w K mg base CX0 k f fd ps sp ∧ mg x = some (.ref f) ∧ PySem.W.keepIn K (.ref f) = true ∧ Binds K fd ps []
theorem pe_ok {X : Cx} {x : Str} {ps : List Str} {k : Nat} {sp : Sp} {e : Expr} {es : List Expr} {t : TA} {p pos : Pos} (O : Ok X.prog X.w X.K X.mg X.base x ps k sp) (hr : Room k X.A) (hg : Gl X x) (ha : PA X (e :: es) t)
    (hdb : (x == ("__debug__" : Str)) = false := by decide) (he : starEach (e :: es) X.env = (false, eval e X.env) :: starEach es X.env := by rfl) (hpl : (backTo pos (starEach es X.env)).any (·.1) = false := by rfl) :
    PE X (.Call (.Name x p) (e :: es) [] pos) (tCall sp [] E0 t) := by
  obtain ⟨f, fd, G, g, kp, b⟩ := O
  exact pe_call G hr hg g kp b .nil pass0 ha hdb he hpl
/-- a sign in a text -/
def rInSg : R2 := fun x y H Q => ∃ (c : Nat) (z : Str), x = .str ⟨#[c]⟩ ∧ y = .str z ∧ Q (.bl (decide (c ∈ z.cps.toList))) H
theorem op_inSg {X : Cx} : OpR X (compareOp .In) rInSg := op_in_sign
theorem Same.room {k j : Nat} {A : Around} (h : Room k A) (e : j ≤ k) : Room j A := h.mono e
end PF
-- part PfSpec
set_option Elab.async false
set_option linter.all false
set_option maxRecDepth 100000
set_option maxHeartbeats 4000000
/-! what the program's data stand for -/
namespace PF
open PySem PySem.Spec PyProof.Rows L2
def kdS : Kd → Str
  | .shut => "shut"
  | .one => "one"
  | .two => "two"
  | .opn => "open"
theorem kdS_inj {a b : Kd} (h : kdS a = kdS b) : a = b := by cases a <;> cases b <;> first | rfl | exact absurd h (by decide)
def eKy (k : Ky) : PyData := .tuple [.str (kdS k.1), .int k.2.1, .int k.2.2]
def eWay (w : Way) : PyData := .tuple [.int w.1, .list (w.2.map eKy)]
def oD : Option Int → PyData
  | none => .none
  | some i => .int i
def oV : Option Int → V
  | none => .non
  | some i => .int i
theorem DD_oD {H : Hp} (o : Option Int) : DD H (oV o) (oD o) := by cases o <;> constructor
theorem oD_V {H : Hp} {v : V} {o : Option Int} (h : DD H v (oD o)) : v = oV o := by cases o <;> cases h <;> rfl
theorem noneD_oD (o : Option Int) : noneD (oD o) = o.isNone := by cases o <;> rfl
def eRow (k : Ky) (o : Option Int) : PyData := .tuple [.str (kdS k.1), .int k.2.1, .int k.2.2, oD o]
def ePr (p : Pr) : PyData := .tuple [.int p.1, .int p.2]
/-- rules -/
structure Rl where
  letters : Str
  pairs : List (Str × Int)
  span : Int
  loops : List Int
  stacks : List (Str × Str × Int)
def eStk (t : Str × Str × Int) : PyData := .tuple [.str t.1, .str t.2.1, .int t.2.2]
def RulesAt (S : Hp) (v : V) (r : Rl) : Prop := ∃ (a tp tl ts : Addr) (ps : List Addr) (sv : List V), v = .ref a ∧ S a = some (.tup [.str r.letters, .ref tp, .int r.span, .ref tl, .ref ts]) ∧ TupF S tp (ps.map V.ref) ∧
  Paired (fun p (kv : Str × Int) => S p = some (.tup [.str kv.1, .int kv.2])) ps r.pairs ∧ S tl = some (.tup (r.loops.map V.int)) ∧ S ts = some (.tup sv) ∧ DDs S sv (r.stacks.map eStk)
theorem Paired.imp {α β : Type} {p q : α → β → Prop} (h : ∀ a b, p a b → q a b) : ∀ {l : List α} {m : List β}, Paired p l m → Paired q l m
  | _, _, .nil => .nil
  | _, _, .cons a t => .cons (h _ _ a) (Paired.imp h t)
theorem RulesAt.mono {S S' : Hp} {v : V} {r : Rl} (e : Same S S') (h : RulesAt S v r) : RulesAt S' v r := by
  obtain ⟨a, tp, tl, ts, ps, sv, h1, h2, ⟨o, ho, h3⟩, h4, h5, h6, h7⟩ := h
  exact ⟨a, tp, tl, ts, ps, sv, h1, e _ _ h2, ⟨o, ho, e _ _ h3⟩, Paired.imp (fun _ _ z => e _ _ z) h4, e _ _ h5, e _ _ h6, h7.mono e⟩
structure RlOk (r : Rl) : Prop where
  nl : r.letters.length ≤ 30
  np : r.pairs.length ≤ 100
  ns : r.stacks.length ≤ 100
  n9 : r.loops.length = 9
  sp : 0 ≤ r.span ∧ r.span ≤ 3
  lo : ∀ x ∈ r.loops, -99 ≤ x ∧ x ≤ 99
  pa : ∀ p ∈ r.pairs, -99 ≤ p.2 ∧ p.2 ≤ 99
  p2 : ∀ p ∈ r.pairs, p.1.length = 2
  st : ∀ p ∈ r.stacks, -99 ≤ p.2.2 ∧ p.2.2 ≤ 99
  s2 : ∀ p ∈ r.stacks, p.1.length = 2 ∧ p.2.1.length = 2
  lk : PyData.strOk r.letters = true
  po : ∀ p ∈ r.pairs, PyData.strOk p.1 = true
  so : ∀ p ∈ r.stacks, PyData.strOk p.1 = true ∧ PyData.strOk p.2.1 = true
  nd : (r.stacks.map fun t => (t.1, t.2.1)).Nodup
def pkv (r : Rl) : List (Key × V) := r.pairs.map fun p => (.inr p.1, .int p.2)
/-- what a pair's text is worth -/
def pwO (r : Rl) (s : Str) : Option Int := match valV (mergeK [] (pkv r)) (.inr s) with
  | some (.int i) => some i
  | _ => none
theorem putK_ints {kvs : List (Key × V)} {k : Key} {i : Int} (h : ∀ p ∈ kvs, ∃ j, p.2 = .int j) : ∀ p ∈ putK kvs k (.int i), ∃ j, p.2 = V.int j := by
  unfold putK
  intro p hp
  split at hp
  · obtain ⟨q, hq, rfl⟩ := List.mem_map.mp hp
    split
    · exact ⟨i, rfl⟩
    · exact h q hq
  · rcases List.mem_append.mp hp with hp | hp
    · exact h p hp
    · simp only [List.mem_singleton] at hp
      exact ⟨i, by rw [hp]⟩
theorem mergeK_ints : ∀ (more kvs : List (Key × V)), (∀ p ∈ kvs, ∃ j, p.2 = V.int j) → (∀ p ∈ more, ∃ j, p.2 = V.int j) → ∀ p ∈ mergeK kvs more, ∃ j, p.2 = V.int j
  | [], kvs, h, _ => h
  | q :: more, kvs, h, hm => by
    obtain ⟨j, hj⟩ := hm q List.mem_cons_self
    have e : mergeK kvs (q :: more) = mergeK (putK kvs q.1 q.2) more := rfl
    rw [e, hj]
    exact mergeK_ints more _ (putK_ints h) fun p hp => hm p (List.mem_cons_of_mem _ hp)
theorem pwO_val (r : Rl) (s : Str) : valV (mergeK [] (pkv r)) (.inr s) = (pwO r s).map V.int := by
  unfold pwO
  cases h : valV (mergeK [] (pkv r)) (.inr s) with
  | none => rfl
  | some v =>
    unfold valV at h
    obtain ⟨p, hp, rfl⟩ := Option.map_eq_some_iff.mp h
    obtain ⟨j, hj⟩ := mergeK_ints (pkv r) [] (by simp) (fun q hq => by
      unfold pkv at hq
      obtain ⟨z, _, rfl⟩ := List.mem_map.mp hq
      exact ⟨z.2, rfl⟩) p (List.mem_of_find?_eq_some hp)
    simp only [hj]
    rfl
/-- the sign at i -/
def chS (z : Str) (i : Int) : Str := match z.cps.toList[i.toNat]? with
  | some c => ⟨#[c]⟩
  | none => ⟨#[]⟩
def both (z : Str) (i j : Int) : Str := chS z i ++ chS z j
def stkW (r : Rl) (a b : Str) : Int := (((r.stacks.filter fun t => decide (t.1 = a) && decide (t.2.1 = b)).map (·.2.2)).head?).getD 0
/-- what a string and rules are to the tables -/
def gOf (r : Rl) (z : Str) : G where
  n := (z.length : Int)
  fits i j := decide (j - i > r.span) && (pwO r (both z i j)).isSome
  pw i j := (pwO r (both z i j)).getD 0
  L k := r.loops.getD k 0
  sw i j p q := stkW r (both z i j) (both z p q)
theorem chS_len (z : Str) (i : Int) : (chS z i).length ≤ 1 := by
  unfold chS
  split
  · exact Nat.le_refl 1
  · exact Nat.zero_le _
theorem ch_at {z : Str} {i : Int} (h0 : 0 ≤ i) (h1 : i < (z.length : Int)) : ∃ c, atI z.cps.toList i = some c ∧ (⟨#[c]⟩ : Str) = chS z i := by
  have hl : z.cps.toList.length = z.length := Array.length_toList
  have hi : i.toNat < z.cps.toList.length := by omega
  refine ⟨z.cps.toList[i.toNat], ?_, ?_⟩
  · have := atI_nat (xs := z.cps.toList) (j := i.toNat) (List.getElem?_eq_getElem hi)
    rw [Int.toNat_of_nonneg h0] at this
    exact this
  · unfold chS
    rw [List.getElem?_eq_getElem hi]
section
variable {P : Program} {w : World} {K : PySem.W.Frag} {mg : Str → Option Value} {base : Heap}
/-- a def whose promise is over what stands still -/
theorem okP {x qual : Str} {st : Stmt} {f : Addr} {fd : FuncData} {N ps : List Str} {k : Nat} {R : Hp → List V → (Hp → V → Prop) → Prop} (F : Fun K x qual st f fd) (Sc : FnScope N ps (defScope st)) (len : ∀ S vs Post, R S vs Post → vs.length = ps.length)
    (body : ∀ (cdv : Value) (A : Around) (outer : List Env) (s : Shared) (H S : Hp) (vs : List V) (Post : Hp → V → Prop) (Q : VK) (E : XK), Room k (A.deeper (envOfC qual (defScope st) s.heap.objs.size f cdv)) → Same S H → R S vs Post →
      (∀ v S' H', Gr [] S H S' H' → Post S' v → Q v H') → ∃ t, PSs (cxOf CX0 P w K mg base N qual (defScope st) f cdv A outer s H E).nox (defBody st) t ∧ t { nx := fun _ H' => Q .non H', rt := Q } (start N vs) H) :
    FnOk P w K mg base CX0 (k + 1) f fd ps (spP R) := by
  refine F.ok Sc (fun vs H Q E h => ?_) (fun cdv A outer s H vs Q E hr h => ?_)
  · obtain ⟨S, Post, _, h, _⟩ := h
    exact len S vs Post h
  · obtain ⟨S, Post, sS, h, q⟩ := h
    exact body cdv A outer s H S vs Post Q E hr sS h q
end
end PF
-- part PfP1
set_option Elab.async false
set_option linter.all false
set_option maxRecDepth 100000
set_option maxHeartbeats 4000000
namespace PF
open PySem PySem.Spec PyProof.Rows L2
theorem sc_pair_worth : FnScope ["rules", "both"] ["rules", "both"] (defScope s_pair_worth) := ⟨rfl, rfl, rfl, by decide +kernel, rfl, by decide +kernel, by decide +kernel⟩
theorem sc_both_of : FnScope ["string", "i", "j"] ["string", "i", "j"] (defScope s_both_of) := ⟨rfl, rfl, rfl, by decide +kernel, rfl, by decide +kernel, by decide +kernel⟩
theorem sc_may_pair : FnScope ["rules", "string", "i", "j"] ["rules", "string", "i", "j"] (defScope s_may_pair) := ⟨rfl, rfl, rfl, by decide +kernel, rfl, by decide +kernel, by decide +kernel⟩
section
variable {P : Program} {w : World} {K : PySem.W.Frag} {mg : Str → Option Value} {base : Heap} {S : Hp} {σ : L2.St}
/-- parts of the rules -/
theorem gRul {i : Nat} {v : V} {r : Rl} (hr : RulesAt S v r) (h : σ[i]? = some (some v) := by rfl) : Gv (tVar i) σ S fun S' x => RulesAt S' x r := gVar h fun S' e => hr.mono e
/-- the pairs' tuple -/
def PairsAt (r : Rl) (S : Hp) (v : V) : Prop := ∃ tp ps, v = .ref tp ∧ TupF S tp (ps.map V.ref) ∧ Paired (fun p (kv : Str × Int) => S p = some (.tup [.str kv.1, .int kv.2])) ps r.pairs
theorem PairsAt.mono {S S' : Hp} {v : V} {r : Rl} (e : Same S S') (h : PairsAt r S v) : PairsAt r S' v := by
  obtain ⟨tp, ps, h1, ⟨o, ho, h3⟩, h4⟩ := h
  exact ⟨tp, ps, h1, ⟨o, ho, e _ _ h3⟩, Paired.imp (fun _ _ z => e _ _ z) h4⟩
section
variable {te ti : TE} {r : Rl} (h : Gv te σ S fun S' x => RulesAt S' x r)
include h
theorem gRul0 : GD (tOp (rIx K) te (tC (.int 0))) σ S (.str r.letters) := gOp h fun S1 x a hx => gInt.weak fun S2 y a2 hy => by
  cases hy
  obtain ⟨b, tp, tl, ts, ps, sv, rfl, h2, h3, h4, h5, h6, h7⟩ := hx
  exact fun S3 H a3 b3 Q k => .inr (.inl ⟨b, _, 0, _, rfl, rfl, SqT.of (b3 _ _ (a3 _ _ (a2 _ _ h2))), rfl, k _ S3 H (Gr.refl b3) (.str _)⟩)
theorem gRul2 : GD (tOp (rIx K) te (tC (.int 2))) σ S (.int r.span) := gOp h fun S1 x a hx => gInt.weak fun S2 y a2 hy => by
  cases hy
  obtain ⟨b, tp, tl, ts, ps, sv, rfl, h2, h3, h4, h5, h6, h7⟩ := hx
  exact fun S3 H a3 b3 Q k => .inr (.inl ⟨b, _, 2, _, rfl, rfl, SqT.of (b3 _ _ (a3 _ _ (a2 _ _ h2))), rfl, k _ S3 H (Gr.refl b3) (.int _)⟩)
theorem gRul3 : GD (tOp (rIx K) te (tC (.int 3))) σ S (.tuple (r.loops.map .int)) := gOp h fun S1 x a hx => gInt.weak fun S2 y a2 hy => by
  cases hy
  obtain ⟨b, tp, tl, ts, ps, sv, rfl, h2, h3, h4, h5, h6, h7⟩ := hx
  exact fun S3 H a3 b3 Q k => .inr (.inl ⟨b, _, 3, _, rfl, rfl, SqT.of (b3 _ _ (a3 _ _ (a2 _ _ h2))), rfl, k _ S3 H (Gr.refl b3) (.tup (a3 _ _ (a2 _ _ h5)) (DDs.of_ints _))⟩)
theorem gRul4 : GD (tOp (rIx K) te (tC (.int 4))) σ S (.tuple (r.stacks.map eStk)) := gOp h fun S1 x a hx => gInt.weak fun S2 y a2 hy => by
  cases hy
  obtain ⟨b, tp, tl, ts, ps, sv, rfl, h2, h3, h4, h5, h6, h7⟩ := hx
  exact fun S3 H a3 b3 Q k => .inr (.inl ⟨b, _, 4, _, rfl, rfl, SqT.of (b3 _ _ (a3 _ _ (a2 _ _ h2))), rfl, k _ S3 H (Gr.refl b3) (.tup (a3 _ _ (a2 _ _ h6)) ((h7.mono a2).mono a3))⟩)
theorem gRul1 : Gv (tOp (rIx K) te (tC (.int 1))) σ S (PairsAt r) := gOp h fun S1 x a hx => gInt.weak fun S2 y a2 hy => by
  cases hy
  obtain ⟨b, tp, tl, ts, ps, sv, rfl, h2, h3, h4, h5, h6, h7⟩ := hx
  exact fun S3 H a3 b3 Q k => .inr (.inl ⟨b, _, 1, _, rfl, rfl, SqT.of (b3 _ _ (a3 _ _ (a2 _ _ h2))), rfl, k _ S3 H (Gr.refl b3) (PairsAt.mono a3 (PairsAt.mono a2 ⟨tp, ps, rfl, h3, h4⟩))⟩)
end
def rDictP (K : PySem.W.Frag) : List V → Hp → VK → Prop := fun xs H Q => ∃ (a : Addr) (ps : List Addr) (kvs : List (Key × V)), xs = [.ref a] ∧ TupF H a (ps.map V.ref) ∧ Paired (fun p kv => SqT K H p [kV kv.1, kv.2]) ps kvs ∧
    ∀ d, H d = none → Q (.ref d) (upd H d (.dK (mergeK [] kvs)))
theorem call_dictP' {X : Cx} (hc : X.calm = true) : CallR X (.type "dict") (rDictP X.K) := call_dictTup hc
theorem gDictP {te : TE} {r : Rl} (h : Gv te σ S (PairsAt r)) : Gv (tCB (rDictP K) (tCons te tNil)) σ S (IsDK (mergeK [] (pkv r))) := gCB (ga1 h) fun S2 vs a hv S3 H a3 b Q k => by
  obtain ⟨v, rfl, tp, ps, rfl, ⟨o, ho, h3⟩, h4⟩ := hv
  have map : ∀ {ps : List Addr} {l : List (Str × Int)}, Paired (fun p (kv : Str × Int) => S2 p = some (.tup [.str kv.1, .int kv.2])) ps l → Paired (fun p kv => SqT K H p [kV kv.1, kv.2]) ps (l.map fun p => ((.inr p.1 : Key), V.int p.2)) := by
    intro ps l q
    induction q with
    | nil => exact .nil
    | cons h t ih => exact .cons (SqT.of (b _ _ (a3 _ _ h))) ih
  exact ⟨tp, ps, pkv r, rfl, ⟨o, ho, b _ _ (a3 _ _ h3)⟩, map h4, fun d hd => k _ _ _ (Gr.new b hd) ⟨d, rfl, upd_same⟩⟩
/-! ### pair_worth, both_of, may_pair -/
def R_pair_worth : Hp → List V → (Hp → V → Prop) → Prop := fun S vs Post => ∃ (v : V) (r : Rl) (s : Str), vs = [v, .str s] ∧ RulesAt S v r ∧ Post = fun S' x => DD S' x (oD (pwO r s))
theorem ok_pair_worth {f : Addr} {fd : FuncData} {k : Nat} (F : Fun K "pair_worth" "pair_worth" s_pair_worth f fd) (B : BI mg) : FnOk P w K mg base CX0 (k + 1) f fd ["rules", "both"] (spP R_pair_worth) := by
  refine okP F sc_pair_worth (fun S vs Post h => by obtain ⟨v, r, s, rfl, _⟩ := h; rfl) fun cdv A outer s H S vs Post Q E hr sS h q => ?_
  obtain ⟨v, r, z, rfl, hR, rfl⟩ := h
  refine ⟨_, (pss_one (ps_ret (pe_dget1 (hu_of hr) (pe_callTy (call_dictP' rfl) (by rfl) B.dict (by decide +kernel) (pa_cons (pe_ix (ix_seq : IxR _ (rIx K)) (pv 0) pe_int (fun _ _ => rfl)) pa_nil)) (pv 1) ⟨rfl, rfl, rfl, rfl⟩))), ?_⟩
  exact (gGetK (gDictP (gRul1 (gRul hR))) (k := .inr z) (gV (.str z)) fun S' e => by rw [pwO_val]; cases pwO r z <;> constructor).run sS q
def R_both_of : Hp → List V → (Hp → V → Prop) → Prop := fun S vs Post => ∃ (z : Str) (i j : Int), vs = [.str z, .int i, .int j] ∧ z.length ≤ 12 ∧ (0 ≤ i ∧ i < (z.length : Int)) ∧ (0 ≤ j ∧ j < (z.length : Int)) ∧ Post = fun S' x => DD S' x (.str (both z i j))
/-- string[i] + string[j] -/
theorem gBoth {ta ti tb tj : TE} {z : Str} {i j : Int} (ha : GD ta σ S (.str z)) (hi : GD ti σ S (.int i)) (hb : GD tb σ S (.str z)) (hj : GD tj σ S (.int j)) (hz : z.length ≤ 12) (h1 : 0 ≤ i ∧ i < (z.length : Int)) (h2 : 0 ≤ j ∧ j < (z.length : Int)) :
    GD (tOp (rAdd4 K) (tOp (rIx K) ta ti) (tOp (rIx K) tb tj)) σ S (.str (both z i j)) := by
  obtain ⟨c, e1, e2⟩ := ch_at h1.1 h1.2
  obtain ⟨d, e3, e4⟩ := ch_at h2.1 h2.2
  unfold both
  rw [← e2, ← e4]
  exact gAddS (gIxS ha hi (Nat.le_trans hz (by decide)) e1) (gIxS hb hj (Nat.le_trans hz (by decide)) e3) (by show 1 + 1 ≤ sizeLine; decide)
theorem ok_both_of {f : Addr} {fd : FuncData} {k : Nat} (F : Fun K "both_of" "both_of" s_both_of f fd) : FnOk P w K mg base CX0 (k + 1) f fd ["string", "i", "j"] (spP R_both_of) := by
  refine okP F sc_both_of (fun S vs Post h => by obtain ⟨z, i, j, rfl, _⟩ := h; rfl) fun cdv A outer s H S vs Post Q E hr sS h q => ?_
  obtain ⟨z, i, j, rfl, hz, h1, h2, rfl⟩ := h
  refine ⟨_, (pss_one (ps_ret (pe_op (op_add4 : OpR _ _ (rAdd4 K)) (pe_ix (ix_seq : IxR _ (rIx K)) (pv 0) (pv 1) (fun _ _ => rfl)) (pe_ix (ix_seq : IxR _ (rIx K)) (pv 0) (pv 2) (fun _ _ => rfl))))), ?_⟩
  exact (gBoth (gV (.str z)) (gV (.int i)) (gV (.str z)) (gV (.int j)) hz h1 h2).run sS q
def R_may_pair : Hp → List V → (Hp → V → Prop) → Prop := fun S vs Post => ∃ (v : V) (r : Rl) (z : Str) (i j : Int), vs = [v, .str z, .int i, .int j] ∧ RulesAt S v r ∧ z.length ≤ 12 ∧ (0 ≤ i ∧ i < (z.length : Int)) ∧ (0 ≤ j ∧ j < (z.length : Int)) ∧ Post = fun S' x => DD S' x (.bool ((gOf r z).fits i j))
theorem ok_may_pair {f : Addr} {fd : FuncData} {k : Nat} (F : Fun K "may_pair" "may_pair" s_may_pair f fd) (c_both_of : Ok P w K mg base "both_of" ["string", "i", "j"] 1 (spP R_both_of)) (c_pair_worth : Ok P w K mg base "pair_worth" ["rules", "both"] 1 (spP R_pair_worth)) (hk : 1 ≤ k) :
    FnOk P w K mg base CX0 (k + 1) f fd ["rules", "string", "i", "j"] (spP R_may_pair) := by
  refine okP F sc_may_pair (fun S vs Post h => by obtain ⟨v, r, z, i, j, rfl, _⟩ := h; rfl) fun cdv A outer s H S vs Post Q E hr sS h q => ?_
  obtain ⟨v, r, z, i, j, rfl, hR, hz, h1, h2, rfl⟩ := h
  refine ⟨_, (pss_one (ps_ret (pe_and (pe_cmpR op_gt (pe_op op_sub (pv 3) (pv 2)) (pe_ix (ix_seq : IxR _ (rIx K)) (pv 0) pe_int (fun _ _ => rfl)) (nomark _)) (pe_one (pe_cmp (pc_notN (pe_ok c_pair_worth (hr.mono (by omega)) (by rfl) (pa_cons (pv 0) (pa_cons (pe_ok c_both_of (hr.mono (by omega)) (by rfl) (pa_cons (pv 1) (pa_cons (pv 2) (pa_cons (pv 3) pa_nil)))) pa_nil)))) rfl))))), ?_⟩
  refine (GD.is (gAndV (gCmpI (f := fun i j => decide (j < i)) (eSub (gV (.int j)) (gV (.int i))) (gRul2 (gRul hR))) fun _ => gNotN (gCall (RP := R_pair_worth) (R := fun S' x => DD S' x (oD (pwO r (both z i j)))) ?_)) ?_).run sS q
  · refine gaCons' (gRul hR) fun S1 x a hx => (ga1 (R := fun S' x => DD S' x (.str (both z i j))) (gCall (RP := R_both_of) ((gaCons (gV (.str z)) (gaCons (gV (.int i)) (gaCons (gV (.int j)) gaNil))).weak fun S2 vs a2 hv => ?_))).weak fun S2 vs a2 hv => ?_
    · obtain ⟨x1, r1, rfl, hx1, hv⟩ := hv.consE
      obtain ⟨x2, r2, rfl, hx2, hv⟩ := hv.consE
      obtain ⟨x3, r3, rfl, hx3, hv⟩ := hv.consE
      cases hv; cases hx1; cases hx2; cases hx3
      exact ⟨z, i, j, rfl, hz, h1, h2, rfl⟩
    · obtain ⟨y, rfl, hy⟩ := hv
      cases hy
      exact ⟨x, r, _, rfl, hx.mono a2, rfl⟩
  · rw [noneD_oD]
    show PyData.bool (decide (r.span < j - i) && !(pwO r (both z i j)).isNone) = .bool (decide (j - i > r.span) && (pwO r (both z i j)).isSome)
    cases pwO r (both z i j) <;> rfl
end
end PF
-- part PfG
set_option Elab.async false
set_option linter.all false
set_option maxRecDepth 100000
set_option maxHeartbeats 4000000
namespace PF
open PySem PySem.Spec PyProof.Rows L2
def Mono (R : Hp → V → Prop) : Prop := ∀ S S' v, Same S S' → R S v → R S' v
theorem mD (d : PyData) : Mono fun S v => DD S v d := fun _ _ _ e h => h.mono e
theorem mR (r : Rl) : Mono fun S v => RulesAt S v r := fun _ _ _ e h => h.mono e
theorem mV (x : V) : Mono fun _ v => v = x := fun _ _ _ _ h => h
theorem mDT (kvs : List (List Key × V)) : Mono (IsDT kvs) := fun _ _ _ e h => by
  obtain ⟨p, h1, h2⟩ := h
  exact ⟨p, h1, e _ _ h2⟩
theorem mDK (kvs : List (Key × V)) : Mono (IsDK kvs) := fun _ _ _ e h => by
  obtain ⟨p, h1, h2⟩ := h
  exact ⟨p, h1, e _ _ h2⟩
section
variable {K : PySem.W.Frag} {σ : L2.St} {S S1 S' H : Hp} {ta tb te tc td : TE} {tt tu : TT} {v : V} {d d1 d2 d3 d4 : PyData} {R R1 R2' R3 R4 : Hp → V → Prop} {vs : List Nat} {p : Bool} {f : PyData}
theorem gvI {i : Nat} (m : Mono R) (r : R S v) (h : σ[i]? = some (some v) := by rfl) : Gv (tVar i) σ S R := gVar h fun S' e => m _ _ _ e r
theorem gA2 (m1 : Mono R1) (h1 : Gv ta σ S R1) (h2 : Gv tb σ S R2') : GA (tCons ta (tCons tb tNil)) σ S fun S' vs => ∃ a b, vs = [a, b] ∧ R1 S' a ∧ R2' S' b :=
  gaCons' h1 fun S1 x a hx => (ga1 (h2.mono a)).weak fun S2 vs a2 h => by obtain ⟨y, rfl, hy⟩ := h; exact ⟨x, y, rfl, m1 _ _ _ a2 hx, hy⟩
theorem gA3 (m1 : Mono R1) (m2 : Mono R2') (h1 : Gv ta σ S R1) (h2 : Gv tb σ S R2') (h3 : Gv tc σ S R3) : GA (tCons ta (tCons tb (tCons tc tNil))) σ S fun S' vs => ∃ a b c, vs = [a, b, c] ∧ R1 S' a ∧ R2' S' b ∧ R3 S' c :=
  gaCons' h1 fun S1 x a hx => (gA2 m2 (h2.mono a) (h3.mono a)).weak fun S2 vs a2 h => by obtain ⟨y, z, rfl, hy, hz⟩ := h; exact ⟨x, y, z, rfl, m1 _ _ _ a2 hx, hy, hz⟩
theorem gA4 (m1 : Mono R1) (m2 : Mono R2') (m3 : Mono R3) (h1 : Gv ta σ S R1) (h2 : Gv tb σ S R2') (h3 : Gv tc σ S R3) (h4 : Gv td σ S R4) :
    GA (tCons ta (tCons tb (tCons tc (tCons td tNil)))) σ S fun S' vs => ∃ a b c d, vs = [a, b, c, d] ∧ R1 S' a ∧ R2' S' b ∧ R3 S' c ∧ R4 S' d :=
  gaCons' h1 fun S1 x a hx => (gA3 m2 m3 (h2.mono a) (h3.mono a) (h4.mono a)).weak fun S2 vs a2 h => by obtain ⟨y, z, w, rfl, hy, hz, hw⟩ := h; exact ⟨x, y, z, w, rfl, m1 _ _ _ a2 hx, hy, hz, hw⟩
theorem turnT2 {i j : Nat} (h : DD S1 v (.tuple [d1, d2])) (q : ∀ x y, DD S1 x d1 → DD S1 y d2 → wipe (((wipe σ vs).set i (some x)).set j (some y)) vs = wipe σ vs ∧ GT tt (((wipe σ vs).set i (some x)).set j (some y)) S1 p ∧ (p = true → GD te (((wipe σ vs).set i (some x)).set j (some y)) S1 f)) :
    Turn1 σ vs (gTup K 2 (gCons (gName i) (gCons (gName j) gNil))) tt te S1 v p f := by
  obtain ⟨a, xs, rfl, h1, h2⟩ := h.tupE
  obtain ⟨x, r, rfl, hx, h2⟩ := h2.consE
  obtain ⟨y, r, rfl, hy, h2⟩ := h2.consE
  cases h2
  exact ⟨_, fun H Q s q => ⟨a, _, rfl, SqT.of (s _ _ h1), rfl, x, _, rfl, y, _, rfl, rfl, q⟩, q x y hx hy⟩
theorem turnT3 {i j k : Nat} (h : DD S1 v (.tuple [d1, d2, d3])) (q : ∀ x y z, DD S1 x d1 → DD S1 y d2 → DD S1 z d3 → wipe ((((wipe σ vs).set i (some x)).set j (some y)).set k (some z)) vs = wipe σ vs ∧ GT tt ((((wipe σ vs).set i (some x)).set j (some y)).set k (some z)) S1 p ∧ (p = true → GD te ((((wipe σ vs).set i (some x)).set j (some y)).set k (some z)) S1 f)) :
    Turn1 σ vs (gTup K 3 (gCons (gName i) (gCons (gName j) (gCons (gName k) gNil)))) tt te S1 v p f := by
  obtain ⟨a, xs, rfl, h1, h2⟩ := h.tupE
  obtain ⟨x, r, rfl, hx, h2⟩ := h2.consE
  obtain ⟨y, r, rfl, hy, h2⟩ := h2.consE
  obtain ⟨z, r, rfl, hz, h2⟩ := h2.consE
  cases h2
  exact ⟨_, fun H Q s q => ⟨a, _, rfl, SqT.of (s _ _ h1), rfl, x, _, rfl, y, _, rfl, z, _, rfl, rfl, q⟩, q x y z hx hy hz⟩
end
/-! shapes -/
section
variable {a b c d : Str}
theorem eqv_ss : PyData.eqv (.tuple [.str a, .str b]) (.tuple [.str c, .str d]) = (decide (a = c) && decide (b = d)) := by
  rw [PyData.eqv, PyData.eqvAll, PyData.eqvAll, PyData.eqvAll, PyData.eqv, PyData.eqv, Bool.and_true]
  congr 1 <;> rw [Bool.eq_iff_iff] <;> simp
theorem sh_ss (h1 : PyData.strOk a = true) (h2 : PyData.strOk b = true) : SeqAt.shaped (.tuple [.str a, .str b]) = true := by
  simp [SeqAt.shaped, PyData.canLay0, PyData.canLayAll0, PyData.depth, PyData.depthAll, h1, h2]
theorem sh_str (h1 : PyData.strOk a = true) : SeqAt.shaped (.str a) = true := by simp [SeqAt.shaped, PyData.canLay0, PyData.depth, h1]
theorem canLay_ints : ∀ ns : List Int, PyData.canLayAll0 (ns.map .int) = true
  | [] => rfl
  | n :: ns => by rw [List.map_cons, PyData.canLayAll0, canLay_ints ns]; rfl
theorem depth_ints : ∀ ns : List Int, PyData.depthAll (ns.map .int) = 0
  | [] => rfl
  | n :: ns => by rw [List.map_cons, PyData.depthAll, depth_ints ns]; rfl
theorem sh_ints (ns : List Int) : SeqAt.shaped (.list (ns.map .int)) = true := by
  simp [SeqAt.shaped, PyData.canLay0, canLay_ints, PyData.depth, depth_ints]
theorem eqv_list0 (ds : List PyData) : PyData.eqv (.list ds) (.list []) = ds.isEmpty := by
  rw [PyData.eqv]
  cases ds with
  | nil => rfl
  | cons d ds => rw [PyData.eqvAll]; rfl
theorem sh_key {k : Kd} {i j : Int} : SeqAt.shaped (.tuple [.str (kdS k), .int i, .int j]) = true := by
  have h : PyData.strOk (kdS k) = true := by cases k <;> decide +kernel
  simp [SeqAt.shaped, PyData.canLay0, PyData.canLayAll0, PyData.depth, PyData.depthAll, h]
theorem eqv_key {k k' : Kd} {i j i' j' : Int} : PyData.eqv (.tuple [.str (kdS k), .int i, .int j]) (.tuple [.str (kdS k'), .int i', .int j']) = decide (((k, i, j) : Ky) = (k', i', j')) := by
  rw [PyData.eqv, PyData.eqvAll, PyData.eqvAll, PyData.eqvAll, PyData.eqvAll, PyData.eqv, PyData.eqv, PyData.eqv, Bool.and_true, Bool.eq_iff_iff]
  simp only [Bool.and_eq_true, beq_iff_eq, decide_eq_true_eq, Prod.mk.injEq]
  exact ⟨fun ⟨h1, h2, h3⟩ => ⟨kdS_inj h1, h2, h3⟩, fun ⟨h1, h2, h3⟩ => ⟨by rw [h1], h2, h3⟩⟩
theorem strOk_cat (h1 : PyData.strOk a = true) (h2 : PyData.strOk b = true) : PyData.strOk (a ++ b) = true := by
  unfold PyData.strOk at *
  show (a.cps ++ b.cps).all _ = true
  rw [Array.all_append, h1, h2]
  rfl
end
/-- a string of the tables -/
structure ZOk (z : Str) : Prop where
  le : z.length ≤ 12
  ok : PyData.strOk z = true
theorem chS_ok {z : Str} (h : PyData.strOk z = true) (i : Int) : PyData.strOk (chS z i) = true := by
  unfold chS
  split
  · rename_i c hc
    unfold PyData.strOk at *
    rw [← Array.all_toList, List.all_eq_true] at h
    have := h c (List.mem_of_getElem? hc)
    simp only [List.all_toArray, List.all_cons, List.all_nil, Bool.and_true]
    exact this
  · decide +kernel
theorem both_ok {z : Str} (h : PyData.strOk z = true) (i j : Int) : PyData.strOk (both z i j) = true := strOk_cat (chS_ok h i) (chS_ok h j)
end PF
namespace PF
open PySem PySem.Spec PyProof.Rows L2
def tyD : PyData → String
  | .none => "NoneType"
  | .bool _ => "bool"
  | .int _ => "int"
  | .str _ => "str"
  | .list _ => "list"
  | .tuple _ => "tuple"
  | .dict _ => "dict"
section
variable {K : PySem.W.Frag} {σ : L2.St} {S S1 S' H : Hp} {ta tb te tc tl : TE} {tt tu : TT} {v : V} {d : PyData} {R : Hp → V → Prop} {vs : List Nat} {g : TG} {D : Ends}
theorem DD.ty (h : DD H v d) : TyX K H v (.type (tyD d)) := by
  cases h with
  | non => exact .base .non
  | bl b => exact .base (.bl b)
  | int i => exact .base (.int i)
  | str z => exact .base (.str z)
  | lst h _ => exact .base (.lst h)
  | tup h _ => exact .base (.tup h)
theorem gIsi {T : String} {b : Bool} (h : GD ta σ S d) (hb : kitB (tyD d) T = some b := by decide +kernel) : GD (tCB (rIsi K) (tCons ta (tCons (tC (.ty T)) tNil))) σ S (.bool b) :=
  gCB (gA2 (mD d) h (gC (v := .ty T) (R := fun _ v => v = .ty T) fun _ _ => rfl)) fun S2 vs a hv S3 H a3 b3 Q k => by
    obtain ⟨x, y, rfl, hx, rfl⟩ := hv
    exact ⟨x, _, _, _, b, rfl, .ty T, ((hx.mono a3).mono b3).ty, kit_ty hb, k _ S3 H (Gr.refl b3) (.bl b)⟩
theorem gInSg {c : Nat} {z : Str} (ha : GD ta σ S (.str ⟨#[c]⟩)) (hb : GD tb σ S (.str z)) : GD (tOp rInSg ta tb) σ S (.bool (decide (c ∈ z.cps.toList))) :=
  gOpD ha hb fun S2 x y a hx hy => by
    cases hx; cases hy
    exact fun S3 H a b Q k => ⟨c, z, rfl, rfl, k _ S3 H (Gr.refl b) (.bl _)⟩
theorem oDs_V : ∀ {os : List (Option Int)} {xs : List V}, DDs H xs (os.map oD) → xs = os.map oV
  | [], _, h => by cases h; rfl
  | o :: os, _, h => by
    cases h with
    | cons h1 t => rw [oDs_V t, oD_V h1]; rfl
theorem flat_oV : ∀ os : List (Option Int), (os.map oV).all flatV = true
  | [] => rfl
  | o :: os => by rw [List.map_cons, List.all_cons, flat_oV os]; cases o <;> rfl
theorem in_oV : ∀ os : List (Option Int), inV .non (os.map oV) = os.any (·.isNone)
  | [] => rfl
  | o :: os => by
    have ih := in_oV os
    unfold inV at ih ⊢
    rw [List.map_cons, List.any_cons, ih, List.any_cons]
    cases o <;> rfl
theorem gInNon {os : List (Option Int)} (hb : GD tb σ S (.list (os.map oD))) : GD (tOp (rIn K false) (tC .non) tb) σ S (.bool (os.any (·.isNone))) :=
  gOpD gNon hb fun S2 x y a hx hy => by
    cases hx
    obtain ⟨p, xs, rfl, h1, h2⟩ := hy.lstE
    obtain rfl := oDs_V h2
    intro S3 H a b Q k
    refine ⟨p, _, rfl, .inl (SqL.of (b _ _ (a _ _ h1))), rfl, flat_oV os, k _ S3 H (Gr.refl b) ?_⟩
    rw [if_neg Bool.false_ne_true, in_oV]
    exact .bl _
def eSg (c : Nat) : PyData := .str ⟨#[c]⟩
theorem gLcS {z : Str} (p : Nat → Bool) (f : Nat → PyData) (hl : GD tl σ S (.str z)) (hz : z.length ≤ sizeLine)
    (hs : ∀ c ∈ z.cps.toList, ∀ S1, Same S S1 → Turn1 σ vs g tt te S1 (.str ⟨#[c]⟩) (p c) (f c)) : GD (tLc (iStr tl) g tt te vs) σ S (.list ((z.cps.toList.filter p).map f)) := fun S1 H a b Q q =>
  hl S1 H a b _ fun x S2 H2 g2 hx => by
    cases hx
    have hl : z.cps.toList.length = z.cps.size := Array.length_toList
    refine ⟨z, rfl, fun Dl hD => ⟨fun i m H => m = z.cps.size - i ∧ i ≤ z.cps.size ∧ LcI z.cps.toList p f Dl S2 H2 i H, ⟨_, rfl, Nat.zero_le _, LcI.start g2.sh hD⟩, ?_⟩⟩
    rintro i m H' ⟨rfl, hi, hp⟩
    by_cases hlt : i < z.cps.size
    · refine .inr ⟨hlt, fun H' => LcI z.cps.toList p f Dl S2 H2 (i + 1) H', fun H' p' => ⟨z.cps.size - (i + 1), by omega, rfl, hlt, p'⟩, fun x H'' y => ?_⟩
      obtain ⟨rfl, c, hc, rfl⟩ := y
      have hc' : z.cps.toList[i]? = some c := by rw [Array.getElem?_toList]; exact hc
      exact hp.turn hc' (by rw [hl]; exact hz) fun S4 s4 => hs c (List.mem_of_getElem? hc') S4 ((a.trans g2.ss).trans s4)
    · have e : i = z.cps.size := by omega
      subst e
      exact .inl ⟨Nat.le_refl _, hp.done hl.symm g2 hD q⟩
theorem fForS {ts : TS} {z : Str} (ex : List Addr) (I : Nat → L2.St → Hp → Hp → Prop) (hl : GD tl σ S (.str z)) (sS : Same S H)
    (h0 : ∀ S1 H1, Gr [] S H S1 H1 → I 0 σ S1 H1)
    (hs : ∀ i c σ' S' H' (N : L2.St → Hp → Prop), z.cps.toList[i]? = some c → Gr ex S H S' H' → I i σ' S' H' → (∀ σ3 S3 H3, Gr ex S' H' S3 H3 → I (i + 1) σ3 S3 H3 → N σ3 H3) →
      g (.str ⟨#[c]⟩) σ' H' fun σ2 H2 => ts { D with nx := N, ct := N, bk := D.nx } σ2 H2)
    (hd : ∀ σ' S' H', Gr ex S H S' H' → I z.cps.toList.length σ' S' H' → D.nx σ' H') : tFor (iStr tl) g ts D σ H :=
  hl.run sS fun v S1 H1 g1 hv => by
    cases hv
    have hl : z.cps.toList.length = z.cps.size := Array.length_toList
    refine ⟨z, rfl, ⟨fun i m σ' H' => m = z.cps.size - i ∧ i ≤ z.cps.size ∧ LpI ex S H I S1 i σ' H', ⟨_, rfl, Nat.zero_le _, S1, g1.up0, Same.refl _, h0 _ _ g1⟩, ?_⟩⟩
    rintro i m σ' H' ⟨rfl, hi, S', gr, s, hI⟩
    by_cases hlt : i < z.cps.size
    · refine .inr ⟨hlt, LpI ex S H I S1 (i + 1), fun σ3 H3 p' => ⟨z.cps.size - (i + 1), by omega, rfl, hlt, p'⟩, fun x H'' y => ?_⟩
      obtain ⟨rfl, c, hc, rfl⟩ := y
      exact hs i c σ' S' _ _ (by rw [Array.getElem?_toList]; exact hc) gr hI fun σ3 S3 H3 g3 h3 => ⟨S3, gr.trans g3, s.trans g3.ss, h3⟩
    · have e : i = z.cps.size := by omega
      subst e
      exact .inl ⟨Nat.le_refl _, hd σ' S' H' gr (by rw [hl]; exact hI)⟩
end
end PF
namespace PF
open PySem PySem.Spec PyProof.Rows L2
theorem kb_ss : kitB "str" "str" = some true := by decide +kernel
theorem kb_tt : kitB "tuple" "tuple" = some true := by decide +kernel
theorem kb_ll : kitB "list" "list" = some true := by decide +kernel
theorem kb_ii : kitB "int" "int" = some true := by decide +kernel
theorem kb_ib : kitB "int" "bool" = some false := by decide +kernel
section
variable {K : PySem.W.Frag} {σ : L2.St} {S S1 S' H : Hp} {ta tb te tc tl : TE} {tt tu : TT} {v : V} {d : PyData} {R : Hp → V → Prop} {vs : List Nat} {g : TG} {D : Ends}
theorem gLcTD {α : Type} (l : List α) (enc : α → PyData) (p : α → Bool) (f : α → PyData) (hl : GD tl σ S (.tuple (l.map enc))) (hz : l.length ≤ sizeLine)
    (hs : ∀ x ∈ l, ∀ v S1, Same S S1 → DD S1 v (enc x) → Turn1 σ vs g tt te S1 v (p x) (f x)) : GD (tLc (iTup K tl) g tt te vs) σ S (.list ((l.filter p).map f)) := gLcT l enc p f (hl.weak fun S' v _ hv => tupS hv) hz hs
theorem fForTD {α : Type} {ts : TS} (ex : List Addr) (l : List α) (enc : α → PyData) (I : Nat → L2.St → Hp → Hp → Prop) (hl : GD tl σ S (.tuple (l.map enc))) (sS : Same S H)
    (h0 : ∀ S1 H1, Gr [] S H S1 H1 → I 0 σ S1 H1)
    (hs : ∀ i x v σ' S' H' (N : L2.St → Hp → Prop), l[i]? = some x → Gr ex S H S' H' → DD S' v (enc x) → I i σ' S' H' → (∀ σ3 S3 H3, Gr ex S' H' S3 H3 → I (i + 1) σ3 S3 H3 → N σ3 H3) →
      g v σ' H' fun σ2 H2 => ts { D with nx := N, ct := N, bk := D.nx } σ2 H2)
    (hd : ∀ σ' S' H', Gr ex S H S' H' → I l.length σ' S' H' → D.nx σ' H') : tFor (iTup K tl) g ts D σ H := fForT ex l enc I (hl.weak fun S' v _ hv => tupS hv) sS h0 hs hd
end
theorem canLay_prs : ∀ l : List Pr, PyData.canLayAll0 (l.map ePr) = true
  | [] => rfl
  | p :: l => by rw [List.map_cons, PyData.canLayAll0, canLay_prs l]; rfl
theorem depth_prs : ∀ l : List Pr, PyData.depthAll (l.map ePr) ≤ 1
  | [] => Nat.zero_le _
  | p :: l => by
    rw [List.map_cons, PyData.depthAll]
    have h1 : (ePr p).depth ≤ 1 := by simp [ePr, PyData.depth, PyData.depthAll]
    have h2 := depth_prs l
    omega
theorem sh_prs (l : List Pr) : SeqAt.shaped (.list (l.map ePr)) = true := by
  have h := depth_prs l
  unfold SeqAt.shaped
  rw [PyData.canLay0, canLay_prs, PyData.depth, Bool.true_and]
  exact decide_eq_true (by omega)
end PF
-- part PfP2
set_option Elab.async false
set_option linter.all false
set_option maxRecDepth 100000
set_option maxHeartbeats 4000000
namespace PF
open PySem PySem.Spec PyProof.Rows L2
theorem sc_stack_worth : FnScope ["rules", "outer", "within", "found", "one", "other", "worth"] ["rules", "outer", "within"] (defScope s_stack_worth) := ⟨rfl, rfl, rfl, by decide +kernel, rfl, by decide +kernel, by decide +kernel⟩
theorem sc_is_string : FnScope ["rules", "thing", "letter"] ["rules", "thing"] (defScope s_is_string) := ⟨rfl, rfl, rfl, by decide +kernel, rfl, by decide +kernel, by decide +kernel⟩
theorem sc_need_string : FnScope ["rules", "thing"] ["rules", "thing"] (defScope s_need_string) := ⟨rfl, rfl, rfl, by decide +kernel, rfl, by decide +kernel, by decide +kernel⟩
section
variable {P : Program} {w : World} {K : PySem.W.Frag} {mg : Str → Option Value} {base : Heap} {S : Hp} {σ : L2.St}
def R_stack_worth : Hp → List V → (Hp → V → Prop) → Prop := fun S vs Post => ∃ (v : V) (r : Rl) (a b : Str), vs = [v, .str a, .str b] ∧ RulesAt S v r ∧ RlOk r ∧ PyData.strOk a = true ∧ PyData.strOk b = true ∧ Post = fun S' x => DD S' x (.int (stkW r a b))
theorem ok_stack_worth {f : Addr} {fd : FuncData} {k : Nat} (F : Fun K "stack_worth" "stack_worth" s_stack_worth f fd) (B : BI mg) : FnOk P w K mg base CX0 (k + 1) f fd ["rules", "outer", "within"] (spP R_stack_worth) := by
  refine okP F sc_stack_worth (fun S vs Post h => by obtain ⟨v, r, a, b, rfl, _⟩ := h; rfl) fun cdv A outer s H S vs Post Q E hr sS h q => ?_
  obtain ⟨v, r, a, b, rfl, hR, ok, ha, hb, rfl⟩ := h
  refine ⟨_, (pss_cons (ps_setLc (i := 3) (own := [("one", 4), ("other", 5), ("worth", 6)]) (g := (gTup K 3 (gCons (gName 4) (gCons (gName 5) (gCons (gName 6) gNil))))) (by rfl) sc_stack_worth.nd rfl rfl (sw_true rfl rfl rfl (by decide +kernel)) (pi_tup (pe_ix (ix_seq : IxR _ (rIx K)) (pv 0) pe_int (fun _ _ => rfl))) (blkOk_by (own := [("one", 4), ("other", 5), ("worth", 6)]) (N := ["rules", "outer", "within", "found", "one", "other", "worth"]) (sc := defScope s_stack_worth) (by decide +kernel)) (fun _ _ _ _ _ => (pg_tup (by rfl) (pgs_cons (pg_name (i := 4) sc_stack_worth.nd rfl (by first | exact .inl rfl | exact .inr rfl)) (pgs_cons (pg_name (i := 5) sc_stack_worth.nd rfl (by first | exact .inl rfl | exact .inr rfl)) (pgs_cons (pg_name (i := 6) sc_stack_worth.nd rfl (by first | exact .inl rfl | exact .inr rfl)) pgs_nil))))) (fun _ _ _ _ _ => (pts_one (pt_cmpR (op_eqD hr.units : OpR _ _ (rEqD K)) (pe_tup (pa_cons (pv 4) (pa_cons (pv 5) pa_nil))) (pe_tup (pa_cons (pv 1) (pa_cons (pv 2) pa_nil))) (nomark _)))) (fun _ _ _ _ _ => (pv 6)))
      (pss_one (ps_ret (pe_ifExp (pt_cmpR (op_neD hr.units : OpR _ _ (rNeD K)) (pv 3) (pe_lst pa_nil) (nomark _)) (pe_ix (ix_seq : IxR _ (rIx K)) (pv 3) pe_int (fun _ _ => rfl)) pe_int)))), ?_⟩
  refine sAsg (gLcTD r.stacks eStk (fun t => decide (t.1 = a) && decide (t.2.1 = b)) (fun t => .int t.2.2) (gRul4 (gRul hR)) (Nat.le_trans ok.ns (by decide)) fun t ht x S1 e hx => ?_) sS fun fv S1 H1 g1 hf => ?_
  · refine turnT3 hx fun y1 y2 y3 h1 h2 h3 => ⟨rfl, ?_, fun _ => gV h3⟩
    have hs := ok.so t ht
    refine gTest ((gEqD (eTup (gaCons (gV h1) (gaCons (gV h2) gaNil))) (eTup (gaCons (gV (.str a)) (gaCons (gV (.str b)) gaNil))) (sh_ss hs.1 hs.2) (sh_ss ha hb) eqv_ss))
  · have e2 : (r.stacks.filter fun t => decide (t.1 = a) && decide (t.2.1 = b)).map (fun t => PyData.int t.2.2) = ((r.stacks.filter fun t => decide (t.1 = a) && decide (t.2.1 = b)).map (·.2.2)).map .int := by rw [List.map_map]; rfl
    rw [e2] at hf
    generalize hl : (r.stacks.filter fun t => decide (t.1 = a) && decide (t.2.1 = b)).map (·.2.2) = ws at hf
    refine sRet (R := fun S' x => DD S' x (.int (stkW r a b))) (gIf (b := !ws.isEmpty) (gTest ((gNeD (gV hf) (eLst gaNil) (sh_ints ws) (by decide +kernel) (eqv_list0 _)).is (by cases ws <;> rfl))) (fun h => ?_) (fun h => ?_)) g1.sh fun v2 S2 H2 g2 hv => q v2 S2 H2 (g1.trans g2) hv
    · cases ws with
      | nil => simp at h
      | cons x ws => exact gIxL (gV hf) gInt (by unfold stkW; rw [hl]; exact atI_nat (j := 0) rfl)
    · cases ws with
      | nil => unfold stkW; rw [hl]; exact gInt
      | cons x ws => simp at h
def R_is_string : Hp → List V → (Hp → V → Prop) → Prop := fun S vs Post => ∃ (v : V) (r : Rl) (z : Str), vs = [v, .str z] ∧ RulesAt S v r ∧ z.length ≤ 12 ∧ (∀ c ∈ z.cps.toList, c ∈ r.letters.cps.toList) ∧ Post = fun S' x => DD S' x (.bool true)
theorem ok_is_string {f : Addr} {fd : FuncData} {k : Nat} (F : Fun K "is_string" "is_string" s_is_string f fd) (B : BI mg) (mMost : ∃ t, mg "MOST_PLACES" = some (.int 12 t)) : FnOk P w K mg base CX0 (k + 1) f fd ["rules", "thing"] (spP R_is_string) := by
  obtain ⟨tM, mMost⟩ := mMost
  refine okP F sc_is_string (fun S vs Post h => by obtain ⟨v, r, z, rfl, _⟩ := h; rfl) fun cdv A outer s H S vs Post Q E hr sS h q => ?_
  obtain ⟨v, r, z, rfl, hR, hz, hc, rfl⟩ := h
  refine ⟨_, (pss_cons (ps_if (PW.pt (pw_or (pt_not (pt_val (pe_callB (call_isi : CallR _ _ (rIsi K)) (by rfl) B.isinstance (by decide +kernel) (pa_cons (pv 1) (pa_cons (pe_bltn (v := .ty "str") (by rfl) B.str (by decide +kernel) rfl) pa_nil))))) (pw_or1 (pt_cmpR op_gt (pe_callB (call_lenA : CallR _ _ (rLenA K)) (by rfl) B.len (by decide +kernel) (pa_cons (pv 1) pa_nil)) (pe_glob (v := .int 12) (by rfl) mMost ⟨_, rfl⟩) (nomark _))))) (pss_one (ps_ret pe_bl)) pss_nil)
      (pss_one (ps_ret (pe_callB (cr_all rfl : CallR _ _ (rAll K)) (by rfl) B.all (by decide +kernel) (pa_cons (pe_lc (own := [("letter", 2)]) (g := (gName 2)) (by rfl) sc_is_string.nd (pi_str (pv 1)) (blkOk_by (own := [("letter", 2)]) (N := ["rules", "thing", "letter"]) (sc := defScope s_is_string) (by decide +kernel)) (fun _ _ _ _ _ => (pg_name (i := 2) sc_is_string.nd rfl (by first | exact .inl rfl | exact .inr rfl))) (fun _ _ _ _ _ => pts_nil) (fun _ _ _ _ _ => (pe_cmpR op_inSg (pv 2) (pe_ix (ix_seq : IxR _ (rIx K)) (pv 0) pe_int (fun _ _ => rfl)) (by rfl)))) pa_nil))))), ?_⟩
  refine sIf (b := false) ((gOr (a := false) (b := false) (gNot (a := true) (gB (gIsi (gV (.str z)) kb_ss))) fun _ => ?_)) sS (fun h => by cases h) fun _ S1 H1 g1 => ?_
  · refine gTest ((gCmpI (f := fun i j => decide (j < i)) (gLenS (gV (.str z)) (Nat.le_trans hz (by decide))) gInt).is ?_)
    rw [decide_eq_false (by omega)]
  · refine sRet (GD.is (gAll (bs := (z.cps.toList.filter fun _ => true).map fun c => decide (c ∈ r.letters.cps.toList)) (GD.is (gLcS (fun _ => true) (fun c => .bool (decide (c ∈ r.letters.cps.toList))) (gV (.str z)) (Nat.le_trans hz (by decide)) fun c hc S2 e => ?_) ?_)) ?_) g1.sh fun v2 S2 H2 g2 hv => q v2 S2 H2 (g1.trans g2) hv
    · exact turnN rfl gYes fun _ => gInSg (gV (.str _)) (gRul0 (gRul ((hR.mono g1.ss).mono e)))
    · rw [List.map_map]; rfl
    · congr 1
      rw [List.all_eq_true]
      intro b hb
      obtain ⟨c, h1, rfl⟩ := List.mem_map.mp hb
      exact decide_eq_true (hc c (List.mem_filter.mp h1).1)
def R_need_string : Hp → List V → (Hp → V → Prop) → Prop := fun S vs Post => ∃ (v : V) (r : Rl) (z : Str), vs = [v, .str z] ∧ RulesAt S v r ∧ z.length ≤ 12 ∧ (∀ c ∈ z.cps.toList, c ∈ r.letters.cps.toList) ∧ Post = fun S' x => x = .non
theorem ok_need_string {f : Addr} {fd : FuncData} {k : Nat} (F : Fun K "need_string" "need_string" s_need_string f fd) (c_is_string : Ok P w K mg base "is_string" ["rules", "thing"] 1 (spP R_is_string)) (hk : 1 ≤ k) : FnOk P w K mg base CX0 (k + 1) f fd ["rules", "thing"] (spP R_need_string) := by
  refine okP F sc_need_string (fun S vs Post h => by obtain ⟨v, r, z, rfl, _⟩ := h; rfl) fun cdv A outer s H S vs Post Q E hr sS h q => ?_
  obtain ⟨v, r, z, rfl, hR, hz, hc, rfl⟩ := h
  refine ⟨_, (pss_one (ps_if (pt_not (pt_val (pe_ok c_is_string (hr.mono (by omega)) (by rfl) (pa_cons (pv 0) (pa_cons (pv 1) pa_nil))))) (pss_one ps_never) pss_nil)), ?_⟩
  refine sIf (b := false) (gNot (a := true) (gB (gCall (RP := R_is_string) ((gA2 (mR r) (gRul hR) (gV (.str z))).weak fun S2 vs a hv => ?_)))) sS (fun h => by cases h) fun _ S1 H1 g1 => q _ S1 H1 g1 rfl
  obtain ⟨x, y, rfl, hx, hy⟩ := hv
  cases hy
  exact ⟨x, r, z, rfl, hx, hz, hc, rfl⟩
end
end PF
-- part PfH
set_option Elab.async false
set_option linter.all false
set_option maxRecDepth 100000
set_option maxHeartbeats 4000000
namespace PF
open PySem PySem.Spec PyProof.Rows L2
def toldK (r : Rl) : List (Key × V) := [(.inr "stacked", .int (r.loops.getD 0 0)), (.inr "inner", .int (r.loops.getD 1 0)), (.inr "inner free", .int (r.loops.getD 2 0)), (.inr "forked", .int (r.loops.getD 3 0)), (.inr "branch", .int (r.loops.getD 4 0)),
  (.inr "fork free", .int (r.loops.getD 5 0)), (.inr "lone", .int (r.loops.getD 6 0)), (.inr "lone free", .int (r.loops.getD 7 0)), (.inr "open", .int (r.loops.getD 8 0))]
def R_told_loops : Hp → List V → (Hp → V → Prop) → Prop := fun S vs Post => ∃ (v : V) (r : Rl), vs = [v] ∧ RulesAt S v r ∧ RlOk r ∧ Post = IsDK (toldK r)
theorem told_0 (r : Rl) : valV (toldK r) (.inr "stacked") = some (.int (r.loops.getD 0 0)) := rfl
theorem told_1 (r : Rl) : valV (toldK r) (.inr "inner") = some (.int (r.loops.getD 1 0)) := rfl
theorem told_2 (r : Rl) : valV (toldK r) (.inr "inner free") = some (.int (r.loops.getD 2 0)) := rfl
theorem told_3 (r : Rl) : valV (toldK r) (.inr "forked") = some (.int (r.loops.getD 3 0)) := rfl
theorem told_4 (r : Rl) : valV (toldK r) (.inr "branch") = some (.int (r.loops.getD 4 0)) := rfl
theorem told_5 (r : Rl) : valV (toldK r) (.inr "fork free") = some (.int (r.loops.getD 5 0)) := rfl
theorem told_6 (r : Rl) : valV (toldK r) (.inr "lone") = some (.int (r.loops.getD 6 0)) := rfl
theorem told_7 (r : Rl) : valV (toldK r) (.inr "lone free") = some (.int (r.loops.getD 7 0)) := rfl
theorem told_8 (r : Rl) : valV (toldK r) (.inr "open") = some (.int (r.loops.getD 8 0)) := rfl
theorem RlOk.lo' {r : Rl} (h : RlOk r) (k : Nat) : -99 ≤ r.loops.getD k 0 ∧ r.loops.getD k 0 ≤ 99 := by
  rw [List.getD_eq_getElem?_getD]
  cases e : r.loops[k]? with
  | none => exact ⟨by decide, by decide⟩
  | some x => exact h.lo x (List.mem_of_getElem? e)
section
variable {K : PySem.W.Frag} {σ : L2.St} {S S' H : Hp} {te ta : TE} {t : TA} {D : Ends} {ds : List PyData}
theorem gTold {i n : Nat} {tv : V} {k : Str} {r : Rl} (ht : IsDK (toldK r) S tv) (hw : valV (toldK r) (.inr k) = some (.int (r.loops.getD n 0))) (h : σ[i]? = some (some tv) := by rfl) : GD (tDGet (tVar i) (tC (.str k))) σ S (.int (r.loops.getD n 0)) :=
  gAtK (gvI (mDK _) ht h) (k := .inr k) gStr hw fun _ _ => .int _
/-- a new list in a slot, hidden -/
theorem sAsgP {i : Nat} (h : GDs t σ S ds) (sS : Same S H) (q : ∀ p xs S' H', Gr [] S H S' H' → H p = none → S' p = none → H' p = some (.lst xs) → DDs S' xs ds → D.nx (σ.set i (some (.ref p))) H') (hz : ds.length ≤ sizeLine := by exact Nat.le_trans (show _ ≤ 64 by simp) (by decide)) :
    tAsg (tLst t) (gName i) D σ H := gLstP h sS hz q
theorem sRetP {i : Nat} {o : Addr} (h : σ[i]? = some (some (.ref o))) (q : D.rt (.ref o) H) : tRet (tVar i) D σ H := ⟨_, h, q⟩
end
/-- what is told of a hidden list at its return -/
theorem tellL {S0 H0 S H : Hp} {o : Addr} {xs : List V} {ds : List PyData} {Q : VK} (g : Gr [] S0 H0 S H) (n0 : H0 o = none) (n : S o = none) (e : H o = some (.lst xs)) (hd : DDs S xs ds) (q : ∀ v S' H', Gr [] S0 H0 S' H' → DD S' v (.list ds) → Q v H') : Q (.ref o) H :=
  q _ _ _ (g.tell n0 n e) (.lst upd_same (hd.mono (same_upd' n)))
theorem DDs.flat {α : Type} {H : Hp} {xs ys : List V} {enc : α → PyData} {a b : List α} (h : DDs H xs (a.map enc)) (h2 : DDs H ys (b.map enc)) : DDs H (xs ++ ys) ((a ++ b).map enc) := by
  rw [List.map_append]
  exact h.append h2
theorem sum_le_mul : ∀ (l : List Nat) (c : Nat), (∀ x ∈ l, x ≤ c) → l.sum ≤ l.length * c
  | [], _, _ => by simp
  | a :: l, c, h => by
    have h1 := h a List.mem_cons_self
    have h2 := sum_le_mul l c fun x hx => h x (List.mem_cons_of_mem _ hx)
    rw [List.sum_cons, List.length_cons, Nat.add_mul]
    omega
theorem take_flatMap {α β : Type} {f : α → List β} {l : List α} {i : Nat} {x : α} (h : l[i]? = some x) : (l.take (i + 1)).flatMap f = (l.take i).flatMap f ++ f x := by
  rw [List.take_add_one, h, List.flatMap_append]
  congr 1
  show List.flatMap f [x] = _
  rw [List.flatMap_cons, List.flatMap_nil, List.append_nil]
theorem take_map {α β : Type} {f : α → β} {l : List α} {i : Nat} {x : α} (h : l[i]? = some x) : (l.take (i + 1)).map f = (l.take i).map f ++ [f x] := by
  rw [List.take_add_one, h, List.map_append]
  rfl
theorem filter_tt {α : Type} (l : List α) : l.filter (fun _ => true) = l := List.filter_eq_self.mpr fun _ _ => rfl
section
variable {K : PySem.W.Frag} {σ : L2.St} {S : Hp} {tl te : TE} {tt : TT} {t : TA} {vs : List Nat} {g : TG}
theorem gLc1 {α : Type} (l : List α) (enc f : α → PyData) (hl : GD tl σ S (.list (l.map enc))) (hz : l.length ≤ sizeLine) (hs : ∀ x ∈ l, ∀ v S1, Same S S1 → DD S1 v (enc x) → Turn1 σ vs g tt te S1 v true (f x)) :
    GD (tLc (iList K tl) g tt te vs) σ S (.list (l.map f)) := (gLc l enc (fun _ => true) f hl hz hs).is (by rw [filter_tt])
theorem gLcT1 {α : Type} (l : List α) (enc f : α → PyData) (hl : GD tl σ S (.tuple (l.map enc))) (hz : l.length ≤ sizeLine) (hs : ∀ x ∈ l, ∀ v S1, Same S S1 → DD S1 v (enc x) → Turn1 σ vs g tt te S1 v true (f x)) :
    GD (tLc (iTup K tl) g tt te vs) σ S (.list (l.map f)) := (gLcTD l enc (fun _ => true) f hl hz hs).is (by rw [filter_tt])
theorem gLcR21 {lo hi : Int} (f : Int → PyData) (hl : GDs t σ S [.int lo, .int hi]) (h1 : Sm lo) (h2 : Sm hi) (hz : (hi - lo).toNat ≤ sizeLine) (hs : ∀ x, lo ≤ x → x < hi → ∀ S1, Same S S1 → Turn1 σ vs g tt te S1 (.int x) true (f x)) :
    GD (tLc (iRng2 t) g tt te vs) σ S (.list ((irange lo hi).map f)) := (gLcR2 (fun _ => true) f hl h1 h2 hz hs).is (by rw [filter_tt])
theorem gLcR11 {hi : Int} (f : Int → PyData) (hl : GDs t σ S [.int hi]) (h2 : Sm hi) (hz : hi.toNat ≤ sizeLine) (hs : ∀ x, 0 ≤ x → x < hi → ∀ S1, Same S S1 → Turn1 σ vs g tt te S1 (.int x) true (f x)) :
    GD (tLc (iRng1 t) g tt te vs) σ S (.list ((irange 0 hi).map f)) := (gLcR1 (fun _ => true) f hl h2 hz hs).is (by rw [filter_tt])
theorem gLcS1 {z : Str} (f : Nat → PyData) (hl : GD tl σ S (.str z)) (hz : z.length ≤ sizeLine) (hs : ∀ c ∈ z.cps.toList, ∀ S1, Same S S1 → Turn1 σ vs g tt te S1 (.str ⟨#[c]⟩) true (f c)) :
    GD (tLc (iStr tl) g tt te vs) σ S (.list (z.cps.toList.map f)) := (gLcS (fun _ => true) f hl hz hs).is (by rw [filter_tt])
end
end PF
-- part PfP3
set_option Elab.async false
set_option linter.all false
set_option maxRecDepth 100000
set_option maxHeartbeats 4000000
namespace PF
open PySem PySem.Spec PyProof.Rows L2
theorem sc_one_ways : FnScope ["rules", "first", "last", "told", "found", "end"] ["rules", "first", "last"] (defScope s_one_ways) := ⟨rfl, rfl, rfl, by decide +kernel, rfl, by decide +kernel, by decide +kernel⟩
theorem sc_open_ways : FnScope ["rules", "first", "last", "worth", "found", "end"] ["rules", "first", "last"] (defScope s_open_ways) := ⟨rfl, rfl, rfl, by decide +kernel, rfl, by decide +kernel, by decide +kernel⟩
section
variable {P : Program} {w : World} {K : PySem.W.Frag} {mg : Str → Option Value} {base : Heap} {S : Hp} {σ : L2.St}
theorem cm_small {i j : Int} (h : -100 ≤ i ∧ i ≤ 100) : CMul i j := .inl ⟨by omega, by omega⟩
theorem callTold {i : Nat} {v : V} {r : Rl} (hR : RulesAt S v r) (ok : RlOk r) (h : σ[i]? = some (some v) := by rfl) : Gv (tCall (spP R_told_loops) [] E0 (tCons (tVar i) tNil)) σ S (IsDK (toldK r)) :=
  gCall ((ga1 (gRul hR h)).weak fun S2 vs a hv => by obtain ⟨x, rfl, hx⟩ := hv; exact ⟨x, r, rfl, hx, ok, rfl⟩)
theorem sm_of {n : Int} (h : -1000 ≤ n ∧ n ≤ 1000) : Sm n := ⟨by omega, by omega⟩
def R_one_ways : Hp → List V → (Hp → V → Prop) → Prop := fun S vs Post => ∃ (v : V) (r : Rl) (z : Str) (i j : Int), vs = [v, .int i, .int j] ∧ RulesAt S v r ∧ RlOk r ∧ (0 ≤ i ∧ i ≤ j ∧ j ≤ 12) ∧ Post = fun S' x => DD S' x (.list ((oneWays (gOf r z) i j).map eWay))
theorem ok_one_ways {f : Addr} {fd : FuncData} {k : Nat} (F : Fun K "one_ways" "one_ways" s_one_ways f fd) (B : BI mg) (c_told_loops : Ok P w K mg base "told_loops" ["rules"] 1 (spP R_told_loops)) (hk : 1 ≤ k) :
    FnOk P w K mg base CX0 (k + 1) f fd ["rules", "first", "last"] (spP R_one_ways) := by
  refine okP F sc_one_ways (fun S vs Post h => by obtain ⟨v, r, z, i, j, rfl, _⟩ := h; rfl) fun cdv A outer s H S vs Post Q E hr sS h q => ?_
  obtain ⟨v, r, z, i, j, rfl, hR, ok, hij, rfl⟩ := h
  refine ⟨_, (pss_cons (ps_set (i := 3) sc_one_ways.nd rfl (by first | exact .inl rfl | exact .inr rfl) (pe_ok c_told_loops (hr.mono (by omega)) (by rfl) (pa_cons (pv 0) pa_nil)))
      (pss_cons (ps_set (i := 4) sc_one_ways.nd rfl (by first | exact .inl rfl | exact .inr rfl) (pe_lst (pa_cons (pe_tup (pa_cons (pe_dget (hu_of hr) (pv 3) pe_str (fun _ _ => rfl)) (pa_cons (pe_lst (pa_cons (pe_tup (pa_cons pe_str (pa_cons (pe_op (op_add4 : OpR _ _ (rAdd4 K)) (pv 1) pe_int) (pa_cons (pv 2) pa_nil)))) pa_nil)) pa_nil))) pa_nil)))
      (pss_cons (ps_for PassesOwn.never rfl (pi_range2 (by rfl) B.range (pa_cons (pe_op (op_add4 : OpR _ _ (rAdd4 K)) (pv 1) pe_int) (pa_cons (pe_op (op_add4 : OpR _ _ (rAdd4 K)) (pv 2) pe_int) pa_nil))) (pg_name (i := 5) sc_one_ways.nd rfl (by first | exact .inl rfl | exact .inr rfl)) (pss_cons (ps_expr (pe_bm PySem.F.plainAttrs_list PySem.F.slot_list_append PySem.F.type_list_append mt_append (pv 4) (pa_cons (pe_tup (pa_cons (pe_op (op_add4 : OpR _ _ (rAdd4 K)) (pe_dget (hu_of hr) (pv 3) pe_str (fun _ _ => rfl)) (pe_op op_mul (pe_op op_sub (pv 2) (pv 5)) (pe_dget (hu_of hr) (pv 3) pe_str (fun _ _ => rfl)))) (pa_cons (pe_lst (pa_cons (pe_tup (pa_cons pe_str (pa_cons (pv 1) (pa_cons (pv 5) pa_nil)))) pa_nil)) pa_nil))) pa_nil)))
      (pss_one (ps_expr (pe_bm PySem.F.plainAttrs_list PySem.F.slot_list_append PySem.F.type_list_append mt_append (pv 4) (pa_cons (pe_tup (pa_cons (pe_dget (hu_of hr) (pv 3) pe_str (fun _ _ => rfl)) (pa_cons (pe_lst (pa_cons (pe_tup (pa_cons pe_str (pa_cons (pv 1) (pa_cons (pv 5) pa_nil)))) (pa_cons (pe_tup (pa_cons pe_str (pa_cons (pe_op (op_add4 : OpR _ _ (rAdd4 K)) (pv 5) pe_int) (pa_cons (pv 2) pa_nil)))) pa_nil))) pa_nil))) pa_nil))))))
      (pss_one (ps_ret (pv 4)))))), ?_⟩
  refine sAsg (callTold hR ok) sS fun tv S1 H1 g1 ht => ?_
  refine sAsgP (gaCons (eTup (gaCons (gTold ht (told_5 r)) (gaCons (eLst (gaCons (eTup (gaCons gStr (gaCons (gAddI (gV (.int i)) gInt) (gaCons (gV (.int j)) gaNil)))) gaNil)) gaNil))) gaNil) g1.sh fun o xs0 S2 H2 g2 o0 n2 e2 d2 => ?_
  have ho : H o = none := g1.same.free o0
  refine fForR2 [o] (fun m σ' S' H' => ∃ e xs, σ' = [some v, some (.int i), some (.int j), some tv, some (.ref o), e] ∧ S' o = none ∧ H' o = some (.lst xs) ∧
    DDs S' xs (((((gOf r z).L 5, [(.one, i + 1, j)]) : Way) :: ((irange (i + 1) (j + 1)).take m).flatMap fun k => [((gOf r z).L 4 + (j - k) * (gOf r z).L 5, [(.shut, i, k)]), ((gOf r z).L 4, [(.shut, i, k), (.one, k + 1, j)])]).map eWay))
    (gaCons (gAddI (gV (.int i)) gInt) (gaCons (gAddI (gV (.int j)) gInt) gaNil)) (sm_of (by omega)) (sm_of (by omega)) g2.sh (fun S3 H3 g3 => ⟨_, xs0, rfl, g3.hide n2 e2, g3.same _ _ e2, d2.mono g3.ss⟩) (fun m σ' S' H' N hm g hI hN => ?_) fun σ' S' H' g hI => ?_
  · obtain ⟨e, xs, rfl, n, eo, hd⟩ := hI
    have ht' := (mDK _ _ _ _ (g2.ss.trans g.ss) ht)
    have hlen := hd.len
    have hz : xs.length ≤ 1000 := by
      rw [hlen, List.length_map, List.length_cons, List.length_flatMap]
      have : ((irange (i + 1) (j + 1)).take m).map (fun k => ([((gOf r z).L 4 + (j - k) * (gOf r z).L 5, [(Kd.shut, i, k)]), ((gOf r z).L 4, [(.shut, i, k), (.one, k + 1, j)])] : List Way).length) = List.replicate ((irange (i + 1) (j + 1)).take m).length 2 := by
        rw [List.eq_replicate_iff]
        exact ⟨by rw [List.length_map], fun b hb => by obtain ⟨x, _, rfl⟩ := List.mem_map.mp hb; rfl⟩
      rw [this, List.sum_replicate_nat, List.length_take, irange_len]
      omega
    refine sApp (gvI (mV _) rfl) (eTup (gaCons (gAddI (gTold ht' (told_4 r)) (gMul (eSub (gV (.int j)) (gV (.int (i + 1 + m)))) (gTold ht' (told_5 r)) (cm_small (by omega)))) (gaCons (eLst (gaCons (eTup (gaCons gStr (gaCons (gV (.int i)) (gaCons (gV (.int (i + 1 + m))) gaNil)))) gaNil)) gaNil)))
      g.sh n eo (Nat.lt_of_le_of_lt hz (by decide)) fun y S3 H3 _ g3 hy n3 => ?_
    have ht3 := mDK _ _ _ _ g3.ss ht'
    refine sApp (gvI (mV _) rfl) (eTup (gaCons (gTold ht3 (told_4 r)) (gaCons (eLst (gaCons (eTup (gaCons gStr (gaCons (gV (.int i)) (gaCons (gV (.int (i + 1 + m))) gaNil)))) (gaCons (eTup (gaCons gStr (gaCons (gAddI (gV (.int (i + 1 + m))) gInt) (gaCons (gV (.int j)) gaNil)))) gaNil))) gaNil)))
      g3.sh n3 upd_same (by rw [List.length_append]; exact Nat.lt_of_le_of_lt (Nat.add_le_add_right hz 1) (by decide)) fun y2 S4 H4 _ g4 hy2 n4 => ?_
    refine hN _ S4 _ (g3.trans g4) ⟨_, _, rfl, n4, upd_same, ?_⟩
    rw [take_flatMap (irange_get (by omega)), ← List.cons_append, List.append_assoc]
    exact (hd.mono (g3.ss.trans g4.ss)).flat (.cons (hy.mono g4.ss) (.cons hy2 .nil))
  · obtain ⟨e, xs, rfl, n, eo, hd⟩ := hI
    refine sRetP rfl (tellL (Gr.over1 (g1.trans g2) g ho) ho n eo hd fun v' S5 H5 g5 h5 => q v' S5 H5 g5 ?_)
    rw [List.take_of_length_le (by rw [irange_len]; omega)] at h5
    exact h5
def R_two_ways : Hp → List V → (Hp → V → Prop) → Prop := fun S vs Post => ∃ (v : V) (r : Rl) (z : Str) (i j : Int), vs = [v, .int i, .int j] ∧ RulesAt S v r ∧ RlOk r ∧ (0 ≤ i ∧ i ≤ j ∧ j ≤ 12) ∧ Post = fun S' x => DD S' x (.list ((twoWays (gOf r z) i j).map eWay))
def R_open_ways : Hp → List V → (Hp → V → Prop) → Prop := fun S vs Post => ∃ (v : V) (r : Rl) (z : Str) (i j : Int), vs = [v, .int i, .int j] ∧ RulesAt S v r ∧ RlOk r ∧ (0 ≤ i ∧ i ≤ 12 ∧ -1 ≤ j ∧ j ≤ 12) ∧ Post = fun S' x => DD S' x (.list ((openWays (gOf r z) i j).map eWay))
theorem ok_open_ways {f : Addr} {fd : FuncData} {k : Nat} (F : Fun K "open_ways" "open_ways" s_open_ways f fd) (B : BI mg) (c_told_loops : Ok P w K mg base "told_loops" ["rules"] 1 (spP R_told_loops)) (hk : 1 ≤ k) :
    FnOk P w K mg base CX0 (k + 1) f fd ["rules", "first", "last"] (spP R_open_ways) := by
  refine okP F sc_open_ways (fun S vs Post h => by obtain ⟨v, r, z, i, j, rfl, _⟩ := h; rfl) fun cdv A outer s H S vs Post Q E hr sS h q => ?_
  obtain ⟨v, r, z, i, j, rfl, hR, ok, hij, rfl⟩ := h
  refine ⟨_, (pss_cons (ps_if (pt_cmpR op_gt (pv 1) (pv 2) (nomark _)) (pss_one (ps_ret (pe_lst (pa_cons (pe_tup (pa_cons pe_int (pa_cons (pe_lst pa_nil) pa_nil))) pa_nil)))) pss_nil)
      (pss_cons (ps_set (i := 3) sc_open_ways.nd rfl (by first | exact .inl rfl | exact .inr rfl) (pe_dget (hu_of hr) (pe_ok c_told_loops (hr.mono (by omega)) (by rfl) (pa_cons (pv 0) pa_nil)) pe_str (fun _ _ => rfl)))
      (pss_cons (ps_set (i := 4) sc_open_ways.nd rfl (by first | exact .inl rfl | exact .inr rfl) (pe_lst (pa_cons (pe_tup (pa_cons pe_int (pa_cons (pe_lst (pa_cons (pe_tup (pa_cons pe_str (pa_cons (pe_op (op_add4 : OpR _ _ (rAdd4 K)) (pv 1) pe_int) (pa_cons (pv 2) pa_nil)))) pa_nil)) pa_nil))) pa_nil)))
      (pss_cons (ps_for PassesOwn.never rfl (pi_range2 (by rfl) B.range (pa_cons (pe_op (op_add4 : OpR _ _ (rAdd4 K)) (pv 1) pe_int) (pa_cons (pe_op (op_add4 : OpR _ _ (rAdd4 K)) (pv 2) pe_int) pa_nil))) (pg_name (i := 5) sc_open_ways.nd rfl (by first | exact .inl rfl | exact .inr rfl)) (pss_one (ps_expr (pe_bm PySem.F.plainAttrs_list PySem.F.slot_list_append PySem.F.type_list_append mt_append (pv 4) (pa_cons (pe_tup (pa_cons (pv 3) (pa_cons (pe_lst (pa_cons (pe_tup (pa_cons pe_str (pa_cons (pv 1) (pa_cons (pv 5) pa_nil)))) (pa_cons (pe_tup (pa_cons pe_str (pa_cons (pe_op (op_add4 : OpR _ _ (rAdd4 K)) (pv 5) pe_int) (pa_cons (pv 2) pa_nil)))) pa_nil))) pa_nil))) pa_nil)))))
      (pss_one (ps_ret (pv 4))))))), ?_⟩
  refine sIf (gTest (gCmpI (f := fun i j => decide (j < i)) (gV (.int i)) (gV (.int j)))) sS (fun hb S1 H1 g1 => ?_) fun hb S1 H1 g1 => ?_
  · have hb := of_decide_eq_true hb
    refine sRet (eLst (gaCons (eTup (gaCons gInt (gaCons (eLst gaNil) gaNil))) gaNil)) g1.sh fun v' S5 H5 g5 h5 => q v' S5 H5 (g1.trans g5) ?_
    unfold openWays
    rw [if_pos hb]
    exact h5
  have hb := of_decide_eq_false hb
  refine sAsg (gAtK (callTold (hR.mono g1.ss) ok) (k := .inr "open") gStr (told_8 r) (R := fun _ v => v = .int (r.loops.getD 8 0)) fun _ _ => rfl) g1.sh fun wv S2 H2 g2 hw => ?_
  subst hw
  refine sAsgP (gaCons (eTup (gaCons gInt (gaCons (eLst (gaCons (eTup (gaCons gStr (gaCons (gAddI (gV (.int i)) gInt) (gaCons (gV (.int j)) gaNil)))) gaNil)) gaNil))) gaNil) g2.sh fun o xs0 S3 H3 g3 o0 n3 e3 d3 => ?_
  have ho : H o = none := (g1.trans g2).same.free o0
  refine fForR2 [o] (fun m σ' S' H' => ∃ e xs, σ' = [some v, some (.int i), some (.int j), some (.int (r.loops.getD 8 0)), some (.ref o), e] ∧ S' o = none ∧ H' o = some (.lst xs) ∧
    DDs S' xs ((((0, [(.opn, i + 1, j)]) : Way) :: ((irange (i + 1) (j + 1)).take m).map fun k => ((gOf r z).L 8, [(.shut, i, k), (.opn, k + 1, j)])).map eWay))
    (gaCons (gAddI (gV (.int i)) gInt) (gaCons (gAddI (gV (.int j)) gInt) gaNil)) (sm_of (by omega)) (sm_of (by omega)) g3.sh (fun S3 H3 g3 => ⟨_, xs0, rfl, g3.hide n3 e3, g3.same _ _ e3, d3.mono g3.ss⟩) (fun m σ' S' H' N hm g hI hN => ?_) fun σ' S' H' g hI => ?_
  · obtain ⟨e, xs, rfl, n, eo, hd⟩ := hI
    have hz : xs.length ≤ 1000 := by
      rw [hd.len, List.length_map, List.length_cons, List.length_map, List.length_take, irange_len]
      omega
    refine sApp (gvI (mV _) rfl) (eTup (gaCons (gV (.int (r.loops.getD 8 0))) (gaCons (eLst (gaCons (eTup (gaCons gStr (gaCons (gV (.int i)) (gaCons (gV (.int (i + 1 + m))) gaNil)))) (gaCons (eTup (gaCons gStr (gaCons (gAddI (gV (.int (i + 1 + m))) gInt) (gaCons (gV (.int j)) gaNil)))) gaNil))) gaNil)))
      g.sh n eo (Nat.lt_of_le_of_lt hz (by decide)) fun y S4 H4 _ g4 hy n4 => ?_
    refine hN _ S4 _ g4 ⟨_, _, rfl, n4, upd_same, ?_⟩
    rw [take_map (irange_get (by omega)), ← List.cons_append]
    exact (hd.mono g4.ss).flat (.cons hy .nil)
  · obtain ⟨e, xs, rfl, n, eo, hd⟩ := hI
    refine sRetP rfl (tellL (Gr.over1 ((g1.trans g2).trans g3) g ho) ho n eo hd fun v' S5 H5 g5 h5 => q v' S5 H5 g5 ?_)
    rw [List.take_of_length_le (by rw [irange_len]; omega)] at h5
    unfold openWays
    rw [if_neg hb]
    exact h5
end
end PF
-- part PfP4
set_option Elab.async false
set_option linter.all false
set_option maxRecDepth 100000
set_option maxHeartbeats 4000000
namespace PF
open PySem PySem.Spec PyProof.Rows L2
theorem sc_within_ways : FnScope ["rules", "string", "first", "last", "told", "found", "start", "end", "free", "own"] ["rules", "string", "first", "last"] (defScope s_within_ways) := ⟨rfl, rfl, rfl, by decide +kernel, rfl, by decide +kernel, by decide +kernel⟩


section
variable {P : Program} {w : World} {K : PySem.W.Frag} {mg : Str → Option Value} {base : Heap} {S : Hp} {σ : L2.St} {ta tb : TE}
theorem gEqI {i j : Int} (ha : GD ta σ S (.int i)) (hb : GD tb σ S (.int j)) : GD (tOp (rEqD K) ta tb) σ S (.bool (decide (i = j))) := gEqD ha hb rfl rfl (by rw [PyData.eqv, Bool.eq_iff_iff]; simp)
theorem gEqS {i j : Str} (ha : GD ta σ S (.str i)) (hb : GD tb σ S (.str j)) (h1 : PyData.strOk i = true) (h2 : PyData.strOk j = true) : GD (tOp (rEqD K) ta tb) σ S (.bool (decide (i = j))) := gEqD ha hb (sh_str h1) (sh_str h2) (by rw [PyData.eqv, Bool.eq_iff_iff]; simp)
theorem gLstRg2 {a b : Int} (ha : GD ta σ S (.int a)) (hb : GD tb σ S (.int b)) (h1 : 0 ≤ a ∧ a ≤ 1000) (h2 : 0 ≤ b ∧ b ≤ 1000) : GD (tLstRg (tRg2 ta tb)) σ S (.list ((irange a b).map .int)) := fun S1 H e1 e2 Q q =>
  ha S1 H e1 e2 _ fun x S2 H2 g hx => hb S2 H2 (e1.trans g.ss) g.sh _ fun y S3 H3 g3 hy => by
    cases hx; cases hy
    refine ⟨a, b, rfl, rfl, RgOk.of_le h1.1 (by omega) (by omega) h2.1, fun p hp => q _ _ _ ((g.trans g3).trans (Gr.new g3.sh hp)) (.lst upd_same ?_)⟩
    have e : rgV a b = (irange a b).map V.int := by
      unfold rgV irange
      rw [List.map_map]
      rfl
    rw [e]
    exact DDs.of_ints _
def R_within_ways : Hp → List V → (Hp → V → Prop) → Prop := fun S vs Post => ∃ (v : V) (r : Rl) (z : Str) (i j : Int), vs = [v, .str z, .int i, .int j] ∧ RulesAt S v r ∧ RlOk r ∧ ZOk z ∧ (0 ≤ i ∧ i < j ∧ j < (z.length : Int)) ∧ Post = fun S' x => DD S' x (.list ((withinWays (gOf r z) i j).map eWay))
theorem ok_within_ways {f : Addr} {fd : FuncData} {k : Nat} (F : Fun K "within_ways" "within_ways" s_within_ways f fd) (B : BI mg) (c_told_loops : Ok P w K mg base "told_loops" ["rules"] 1 (spP R_told_loops))
    (c_stack_worth : Ok P w K mg base "stack_worth" ["rules", "outer", "within"] 1 (spP R_stack_worth)) (hk : 1 ≤ k) : FnOk P w K mg base CX0 (k + 1) f fd ["rules", "string", "first", "last"] (spP R_within_ways) := by
  refine okP F sc_within_ways (fun S vs Post h => by obtain ⟨v, r, z, i, j, rfl, _⟩ := h; rfl) fun cdv A outer s H S vs Post Q E hr sS h q => ?_
  obtain ⟨v, r, z, i, j, rfl, hR, ok, zk, hij, rfl⟩ := h
  refine ⟨_, (pss_cons (ps_set (i := 4) sc_within_ways.nd rfl (by first | exact .inl rfl | exact .inr rfl) (pe_ok c_told_loops (hr.mono (by omega)) (by rfl) (pa_cons (pv 0) pa_nil)))
      (pss_cons (ps_set (i := 5) sc_within_ways.nd rfl (by first | exact .inl rfl | exact .inr rfl) (pe_lst pa_nil))
      (pss_cons (ps_for PassesOwn.never rfl (pi_range2 (by rfl) B.range (pa_cons (pe_op (op_add4 : OpR _ _ (rAdd4 K)) (pv 2) pe_int) (pa_cons (pe_op op_sub (pv 3) pe_int) pa_nil))) (pg_name (i := 6) sc_within_ways.nd rfl (by first | exact .inl rfl | exact .inr rfl)) (pss_one (ps_for PassesOwn.never rfl (pi_range2 (by rfl) B.range (pa_cons (pe_op (op_add4 : OpR _ _ (rAdd4 K)) (pv 6) pe_int) (pa_cons (pv 3) pa_nil))) (pg_name (i := 7) sc_within_ways.nd rfl (by first | exact .inl rfl | exact .inr rfl)) (pss_cons (ps_set (i := 8) sc_within_ways.nd rfl (by first | exact .inl rfl | exact .inr rfl) (pe_op op_sub (pe_op op_sub (pe_op (op_add4 : OpR _ _ (rAdd4 K)) (pe_op op_sub (pe_op op_sub (pv 6) (pv 2)) pe_int) (pv 3)) (pv 7)) pe_int))
      (pss_cons (ps_set (i := 9) sc_within_ways.nd rfl (by first | exact .inl rfl | exact .inr rfl) (pe_op (op_add4 : OpR _ _ (rAdd4 K)) (pe_dget (hu_of hr) (pv 4) pe_str (fun _ _ => rfl)) (pe_op op_mul (pv 8) (pe_dget (hu_of hr) (pv 4) pe_str (fun _ _ => rfl)))))
      (pss_cons (ps_if (pt_cmpR (op_eqD hr.units : OpR _ _ (rEqD K)) (pv 8) pe_int (nomark _)) (pss_one (ps_set (i := 9) sc_within_ways.nd rfl (by first | exact .inl rfl | exact .inr rfl) (pe_op (op_add4 : OpR _ _ (rAdd4 K)) (pe_dget (hu_of hr) (pv 4) pe_str (fun _ _ => rfl)) (pe_ok c_stack_worth (hr.mono (by omega)) (by rfl) (pa_cons (pv 0) (pa_cons (pe_op (op_add4 : OpR _ _ (rAdd4 K)) (pe_ix (ix_seq : IxR _ (rIx K)) (pv 1) (pv 2) (fun _ _ => rfl)) (pe_ix (ix_seq : IxR _ (rIx K)) (pv 1) (pv 3) (fun _ _ => rfl))) (pa_cons (pe_op (op_add4 : OpR _ _ (rAdd4 K)) (pe_ix (ix_seq : IxR _ (rIx K)) (pv 1) (pv 6) (fun _ _ => rfl)) (pe_ix (ix_seq : IxR _ (rIx K)) (pv 1) (pv 7) (fun _ _ => rfl))) pa_nil))))))) pss_nil)
      (pss_one (ps_expr (pe_bm PySem.F.plainAttrs_list PySem.F.slot_list_append PySem.F.type_list_append mt_append (pv 5) (pa_cons (pe_tup (pa_cons (pv 9) (pa_cons (pe_lst (pa_cons (pe_tup (pa_cons pe_str (pa_cons (pv 6) (pa_cons (pv 7) pa_nil)))) pa_nil)) pa_nil))) pa_nil))))))))))
      (pss_one (ps_ret (pv 5)))))), ?_⟩
  have hn : (z.length : Int) ≤ 12 := by have := zk.le; omega
  refine sAsg (callTold hR ok) sS fun tv S1 H1 g1 ht => ?_
  refine sAsgP gaNil g1.sh fun o xs0 S2 H2 g2 o0 n2 e2 d2 => ?_
  have ho : H o = none := g1.same.free o0
  refine fForR2 [o] (fun m σ' S' H' => ∃ e6 e7 e8 e9 xs, σ' = [some v, some (.str z), some (.int i), some (.int j), some tv, some (.ref o), e6, e7, e8, e9] ∧ S' o = none ∧ H' o = some (.lst xs) ∧
    DDs S' xs ((((irange (i + 1) (j - 1)).take m).flatMap fun p => (irange (p + 1) j).map fun q => ((withinOwn (gOf r z) i j p q, [(.shut, p, q)]) : Way)).map eWay))
    (gaCons (gAddI (gV (.int i)) gInt) (gaCons (eSub (gV (.int j)) gInt) gaNil)) (sm_of (by omega)) (sm_of (by omega)) g2.sh (fun S3 H3 g3 => ⟨_, _, _, _, xs0, rfl, g3.hide n2 e2, g3.same _ _ e2, d2.mono g3.ss⟩) (fun m σ' S' H' N hm g hI hN => ?_) fun σ' S' H' g hI => ?_
  · obtain ⟨e6, e7, e8, e9, xs, rfl, n, eo, hd⟩ := hI
    generalize hp : i + 1 + (m : Int) = p at *
    refine fForR2 [o] (fun m2 σ2 S'' H'' => ∃ e7 e8 e9 ys, σ2 = [some v, some (.str z), some (.int i), some (.int j), some tv, some (.ref o), some (.int p), e7, e8, e9] ∧ S'' o = none ∧ H'' o = some (.lst (xs ++ ys)) ∧
      DDs S'' ys ((((irange (p + 1) j).take m2).map fun q => ((withinOwn (gOf r z) i j p q, [(.shut, p, q)]) : Way)).map eWay))
      (gaCons (gAddI (gV (.int p)) gInt) (gaCons (gV (.int j)) gaNil)) (sm_of (by omega)) (sm_of (by omega)) g.sh (fun S3 H3 g3 => ⟨_, _, _, [], rfl, g3.hide n eo, by rw [List.append_nil]; exact g3.same _ _ eo, .nil⟩) (fun m2 σ2 S'' H'' N2 hm2 g' hI2 hN2 => ?_) fun σ2 S'' H'' g' hI2 => ?_
    · obtain ⟨e7, e8, e9, ys, rfl, n', eo', hd'⟩ := hI2
      generalize hq : p + 1 + (m2 : Int) = q' at *
      have ht' := mDK _ _ _ _ ((g2.ss.trans g.ss).trans g'.ss) ht
      have hR' := ((hR.mono g1.ss).mono g2.ss).mono (g.ss.trans g'.ss)
      refine sAsg (eSub (eSub (gAddI (eSub (eSub (gV (.int p)) (gV (.int i))) gInt) (gV (.int j))) (gV (.int q'))) gInt) g'.sh fun fv S3 H3 g3 hf => ?_
      cases hf
      have ht3 := mDK _ _ _ _ g3.ss ht'
      have n3 := g3.hide n' eo'
      have eo3 := g3.same _ _ eo'
      refine sAsg (gAddI (gTold ht3 (told_1 r)) (gMul (gV (.int (p - i - 1 + j - q' - 1))) (gTold ht3 (told_2 r)) (cm_small (by omega)))) g3.sh fun wv S4 H4 g4 hw => ?_
      cases hw
      have n4 := g4.hide n3 eo3
      have eo4 := g4.same _ _ eo3
      have fin : ∀ (S5 H5 : Hp) (u : Int), Gr [] S4 H4 S5 H5 → u = withinOwn (gOf r z) i j p q' → tDrop (tBM K "list" rAppend (tVar 5) (tCons (tTup (tCons (tVar 9) (tCons (tLst (tCons (tTup (tCons (tC (.str "shut")) (tCons (tVar 6) (tCons (tVar 7) tNil)))) tNil)) tNil))) tNil)) { nx := N2, rt := Q, ct := N2, bk := N }
          [some v, some (.str z), some (.int i), some (.int j), some tv, some (.ref o), some (.int p), some (.int q'), some (.int (p - i - 1 + j - q' - 1)), some (.int u)] H5 := by
        intro S5 H5 u g5 hu
        have n5 := g5.hide n4 eo4
        have eo5 := g5.same _ _ eo4
        have l1 := hd.len
        have l2 := hd'.len
        refine sApp (gvI (mV _) rfl) (eTup (gaCons (gV (.int u)) (gaCons (eLst (gaCons (eTup (gaCons gStr (gaCons (gV (.int p)) (gaCons (gV (.int q')) gaNil)))) gaNil)) gaNil))) g5.sh n5 eo5 ?_ fun y S6 H6 _ g6 hy n6 => ?_
        · have b1 : xs.length ≤ 1000 := by
            rw [l1, List.length_map, List.length_flatMap]
            have : ∀ x ∈ ((irange (i + 1) (j - 1)).take m).map (fun p => ((irange (p + 1) j).map fun q => ((withinOwn (gOf r z) i j p q, [(.shut, p, q)]) : Way)).length), x ≤ 12 := by
              intro x hx
              obtain ⟨y, hy, rfl⟩ := List.mem_map.mp hx
              have := mem_irange.mp (List.mem_of_mem_take hy)
              rw [List.length_map, irange_len]
              omega
            have hs := sum_le_mul _ 12 this
            rw [List.length_map, List.length_take, irange_len] at hs
            omega
          have b2 : ys.length ≤ 1000 := by
            rw [l2, List.length_map, List.length_map, List.length_take, irange_len]
            omega
          rw [List.length_append]
          exact Nat.lt_of_le_of_lt (Nat.add_le_add b1 b2) (by decide)
        · refine hN2 _ S6 _ (((g3.trans g4).trans g5).up0.trans g6) ⟨_, _, _, ys ++ [y], rfl, n6, by rw [upd_same, List.append_assoc], ?_⟩
          rw [take_map (irange_get (by omega)), hq, ← hu]
          exact (hd'.mono (((g3.trans g4).trans g5).ss.trans g6.ss)).flat (.cons hy .nil)
      refine sIf (gTest (gEqI (gV (.int (p - i - 1 + j - q' - 1))) gInt)) g4.sh (fun hb S5 H5 g5 => ?_) fun hb S5 H5 g5 => fin S5 H5 _ g5 ?_
      · have hb := of_decide_eq_true hb
        have ht5 := mDK _ _ _ _ (g4.ss.trans g5.ss) ht3
        refine sAsg (gAddI (gTold ht5 (told_0 r)) (gCall (RP := R_stack_worth) (R := fun S' x => DD S' x (.int (stkW r (both z i j) (both z p q')))) ((gA3 (mR r) (mD (.str (both z i j))) (gRul ((hR'.mono g3.ss).mono (g4.ss.trans g5.ss)))
          (gBoth (gV (.str z)) (gV (.int i)) (gV (.str z)) (gV (.int j)) zk.le (by omega) (by omega)) (gBoth (gV (.str z)) (gV (.int p)) (gV (.str z)) (gV (.int q')) zk.le (by omega) (by omega))).weak fun S6 vs a hv => ?_))) g5.sh fun uv S6 H6 g6 hu => ?_
        · obtain ⟨x1, x2, x3, rfl, hx1, hx2, hx3⟩ := hv
          cases hx2; cases hx3
          exact ⟨x1, r, _, _, rfl, hx1, ok, both_ok zk.ok _ _, both_ok zk.ok _ _, rfl⟩
        · cases hu
          refine fin S6 H6 _ (g5.trans g6) ?_
          unfold withinOwn
          rw [if_pos hb]
          rfl
      · have hb := of_decide_eq_false hb
        unfold withinOwn
        rw [if_neg hb]
        rfl
    · obtain ⟨e7, e8, e9, ys, rfl, n', eo', hd'⟩ := hI2
      refine hN _ S'' _ g' ⟨_, _, _, _, _, rfl, n', eo', ?_⟩
      rw [List.take_of_length_le (by rw [irange_len]; omega)] at hd'
      rw [take_flatMap (irange_get (by omega)), hp]
      exact (hd.mono g'.ss).flat hd'
  · obtain ⟨e6, e7, e8, e9, xs, rfl, n, eo, hd⟩ := hI
    refine sRetP rfl (tellL (Gr.over1 (g1.trans g2) g ho) ho n eo hd fun v' S5 H5 g5 h5 => q v' S5 H5 g5 ?_)
    rw [List.take_of_length_le (by rw [irange_len]; omega)] at h5
    exact h5
end
end PF
-- part PfP5
set_option Elab.async false
set_option linter.all false
set_option maxRecDepth 100000
set_option maxHeartbeats 4000000
namespace PF
open PySem PySem.Spec PyProof.Rows L2
theorem sc_two_ways : FnScope ["rules", "first", "last", "told", "found", "ends", "end"] ["rules", "first", "last"] (defScope s_two_ways) := ⟨rfl, rfl, rfl, by decide +kernel, rfl, by decide +kernel, by decide +kernel⟩
theorem sc_shut_ways : FnScope ["rules", "string", "first", "last", "told", "found", "worth", "own", "keys"] ["rules", "string", "first", "last"] (defScope s_shut_ways) := ⟨rfl, rfl, rfl, by decide +kernel, rfl, by decide +kernel, by decide +kernel⟩
theorem sc_ways_of : FnScope ["rules", "string", "key", "kind", "first", "last"] ["rules", "string", "key"] (defScope s_ways_of) := ⟨rfl, rfl, rfl, by decide +kernel, rfl, by decide +kernel, by decide +kernel⟩
section
variable {P : Program} {w : World} {K : PySem.W.Frag} {mg : Str → Option Value} {base : Heap} {S : Hp} {σ : L2.St} {ta tb : TE}
theorem ok_two_ways {f : Addr} {fd : FuncData} {k : Nat} (F : Fun K "two_ways" "two_ways" s_two_ways f fd) (B : BI mg) (c_told_loops : Ok P w K mg base "told_loops" ["rules"] 1 (spP R_told_loops)) (hk : 1 ≤ k) :
    FnOk P w K mg base CX0 (k + 1) f fd ["rules", "first", "last"] (spP R_two_ways) := by
  refine okP F sc_two_ways (fun S vs Post h => by obtain ⟨v, r, z, i, j, rfl, _⟩ := h; rfl) fun cdv A outer s H S vs Post Q E hr sS h q => ?_
  obtain ⟨v, r, z, i, j, rfl, hR, ok, hij, rfl⟩ := h
  refine ⟨_, (pss_cons (ps_set (i := 3) sc_two_ways.nd rfl (by first | exact .inl rfl | exact .inr rfl) (pe_ok c_told_loops (hr.mono (by omega)) (by rfl) (pa_cons (pv 0) pa_nil)))
      (pss_cons (ps_set (i := 4) sc_two_ways.nd rfl (by first | exact .inl rfl | exact .inr rfl) (pe_lst (pa_cons (pe_tup (pa_cons (pe_dget (hu_of hr) (pv 3) pe_str (fun _ _ => rfl)) (pa_cons (pe_lst (pa_cons (pe_tup (pa_cons pe_str (pa_cons (pe_op (op_add4 : OpR _ _ (rAdd4 K)) (pv 1) pe_int) (pa_cons (pv 2) pa_nil)))) pa_nil)) pa_nil))) pa_nil)))
      (pss_cons (ps_set (i := 5) sc_two_ways.nd rfl (by first | exact .inl rfl | exact .inr rfl) (pe_listRg (by rfl) (by rfl) B.list (prg_2 (by rfl) B.range (pe_op (op_add4 : OpR _ _ (rAdd4 K)) (pv 1) pe_int) (pe_op (op_add4 : OpR _ _ (rAdd4 K)) (pv 2) pe_int))))
      (pss_cons (ps_expr (pe_bm PySem.F.plainAttrs_list PySem.F.slot_list_extend PySem.F.type_list_extend mt_extend (pv 4) (pa_cons (pe_lc (own := [("end", 6)]) (g := (gName 6)) (by rfl) sc_two_ways.nd (pi_list (pv 5)) (blkOk_by (own := [("end", 6)]) (N := ["rules", "first", "last", "told", "found", "ends", "end"]) (sc := defScope s_two_ways) (by decide +kernel)) (fun _ _ _ _ _ => (pg_name (i := 6) sc_two_ways.nd rfl (by first | exact .inl rfl | exact .inr rfl))) (fun _ _ _ _ _ => pts_nil) (fun _ _ _ _ _ => (pe_tup (pa_cons (pe_dget (hu_of hr) (pv 3) pe_str (fun _ _ => rfl)) (pa_cons (pe_lst (pa_cons (pe_tup (pa_cons pe_str (pa_cons (pv 1) (pa_cons (pv 6) pa_nil)))) (pa_cons (pe_tup (pa_cons pe_str (pa_cons (pe_op (op_add4 : OpR _ _ (rAdd4 K)) (pv 6) pe_int) (pa_cons (pv 2) pa_nil)))) pa_nil))) pa_nil))))) pa_nil)))
      (pss_one (ps_ret (pv 4))))))), ?_⟩
  refine sAsg (callTold hR ok) sS fun tv S1 H1 g1 ht => ?_
  refine sAsgP (gaCons (eTup (gaCons (gTold ht (told_5 r)) (gaCons (eLst (gaCons (eTup (gaCons gStr (gaCons (gAddI (gV (.int i)) gInt) (gaCons (gV (.int j)) gaNil)))) gaNil)) gaNil))) gaNil) g1.sh fun o xs0 S2 H2 g2 o0 n2 e2 d2 => ?_
  have ho : H o = none := g1.same.free o0
  refine sAsg (gLstRg2 (gAddI (gV (.int i)) gInt) (gAddI (gV (.int j)) gInt) (by omega) (by omega)) g2.sh fun ev S3 H3 g3 he => ?_
  have ht3 := mDK _ _ _ _ (g2.ss.trans g3.ss) ht
  refine sExt (gvI (mV _) rfl) (gLc1 (irange (i + 1) (j + 1)) (fun x => .int x) (fun k => eWay ((gOf r z).L 4, [(.shut, i, k), (.one, k + 1, j)])) (gV he) (by rw [irange_len]; exact Nat.le_trans (show _ ≤ 64 by omega) (by decide)) fun x hx u S4 e hu => turnN rfl gYes fun _ => ?_) g3.sh (g3.hide n2 e2) (g3.same _ _ e2) ?_ fun ys S5 H5 g5 hy n5 => ?_
  · cases hu
    have ht4 := mDK _ _ _ _ e ht3
    exact eTup (gaCons (gTold ht4 (told_4 r)) (gaCons (eLst (gaCons (eTup (gaCons gStr (gaCons (gV (.int i)) (gaCons (gV (.int x)) gaNil)))) (gaCons (eTup (gaCons gStr (gaCons (gAddI (gV (.int x)) gInt) (gaCons (gV (.int j)) gaNil)))) gaNil))) gaNil))
  · rw [d2.len, List.length_map, irange_len]
    exact Nat.le_trans (show _ ≤ 64 by simp only [List.length_cons, List.length_nil]; omega) (by decide)
  · refine sRetP rfl (tellL (Gr.over1 ((g1.trans g2).trans g3) g5 ho) ho n5 upd_same ((d2.mono (g3.ss.trans g5.ss)).append hy) fun v' S6 H6 g6 h6 => q v' S6 H6 g6 ?_)
    unfold twoWays
    rw [List.map_cons, List.map_map]
    exact h6
def R_shut_ways : Hp → List V → (Hp → V → Prop) → Prop := fun S vs Post => ∃ (v : V) (r : Rl) (z : Str) (i j : Int), vs = [v, .str z, .int i, .int j] ∧ RulesAt S v r ∧ RlOk r ∧ ZOk z ∧ (0 ≤ i ∧ i < j ∧ j < (z.length : Int)) ∧ Post = fun S' x => DD S' x (.list ((shutWays (gOf r z) i j).map eWay))
theorem withinWays_len {g : G} {i j : Int} (h : 0 ≤ i ∧ i < j ∧ j ≤ 12) : (withinWays g i j).length ≤ 1000 := by
  unfold withinWays
  rw [List.length_flatMap]
  have : ∀ x ∈ (irange (i + 1) (j - 1)).map (fun p => ((irange (p + 1) j).map fun q => ((withinOwn g i j p q, [(.shut, p, q)]) : Way)).length), x ≤ 12 := by
    intro x hx
    obtain ⟨y, hy, rfl⟩ := List.mem_map.mp hx
    have := mem_irange.mp hy
    rw [List.length_map, irange_len]
    omega
  have hs := sum_le_mul _ 12 this
  rw [List.length_map, irange_len] at hs
  omega
theorem ok_shut_ways {f : Addr} {fd : FuncData} {k : Nat} (F : Fun K "shut_ways" "shut_ways" s_shut_ways f fd) (B : BI mg) (c_told_loops : Ok P w K mg base "told_loops" ["rules"] 1 (spP R_told_loops))
    (c_may_pair : Ok P w K mg base "may_pair" ["rules", "string", "i", "j"] 2 (spP R_may_pair)) (c_within_ways : Ok P w K mg base "within_ways" ["rules", "string", "first", "last"] 2 (spP R_within_ways))
    (c_pair_worth : Ok P w K mg base "pair_worth" ["rules", "both"] 1 (spP R_pair_worth)) (hk : 2 ≤ k) : FnOk P w K mg base CX0 (k + 1) f fd ["rules", "string", "first", "last"] (spP R_shut_ways) := by
  refine okP F sc_shut_ways (fun S vs Post h => by obtain ⟨v, r, z, i, j, rfl, _⟩ := h; rfl) fun cdv A outer s H S vs Post Q E hr sS h q => ?_
  obtain ⟨v, r, z, i, j, rfl, hR, ok, zk, hij, rfl⟩ := h
  refine ⟨_, (pss_cons (ps_if (pt_not (pt_val (pe_ok c_may_pair (hr.mono (by omega)) (by rfl) (pa_cons (pv 0) (pa_cons (pv 1) (pa_cons (pv 2) (pa_cons (pv 3) pa_nil))))))) (pss_one (ps_ret (pe_lst pa_nil))) pss_nil)
      (pss_cons (ps_set (i := 4) sc_shut_ways.nd rfl (by first | exact .inl rfl | exact .inr rfl) (pe_ok c_told_loops (hr.mono (by omega)) (by rfl) (pa_cons (pv 0) pa_nil)))
      (pss_cons (ps_set (i := 5) sc_shut_ways.nd rfl (by first | exact .inl rfl | exact .inr rfl) (pe_lst (pa_cons (pe_tup (pa_cons (pe_op (op_add4 : OpR _ _ (rAdd4 K)) (pe_dget (hu_of hr) (pv 4) pe_str (fun _ _ => rfl)) (pe_op op_mul (pe_op op_sub (pe_op op_sub (pv 3) (pv 2)) pe_int) (pe_dget (hu_of hr) (pv 4) pe_str (fun _ _ => rfl)))) (pa_cons (pe_lst pa_nil) pa_nil))) pa_nil)))
      (pss_cons (ps_expr (pe_bm PySem.F.plainAttrs_list PySem.F.slot_list_extend PySem.F.type_list_extend mt_extend (pv 5) (pa_cons (pe_ok c_within_ways (hr.mono (by omega)) (by rfl) (pa_cons (pv 0) (pa_cons (pv 1) (pa_cons (pv 2) (pa_cons (pv 3) pa_nil))))) pa_nil)))
      (pss_cons (ps_expr (pe_bm PySem.F.plainAttrs_list PySem.F.slot_list_append PySem.F.type_list_append mt_append (pv 5) (pa_cons (pe_tup (pa_cons (pe_dget (hu_of hr) (pv 4) pe_str (fun _ _ => rfl)) (pa_cons (pe_lst (pa_cons (pe_tup (pa_cons pe_str (pa_cons (pe_op (op_add4 : OpR _ _ (rAdd4 K)) (pv 2) pe_int) (pa_cons (pe_op op_sub (pv 3) pe_int) pa_nil)))) pa_nil)) pa_nil))) pa_nil)))
      (pss_cons (ps_set (i := 6) sc_shut_ways.nd rfl (by first | exact .inl rfl | exact .inr rfl) (pe_ok c_pair_worth (hr.mono (by omega)) (by rfl) (pa_cons (pv 0) (pa_cons (pe_op (op_add4 : OpR _ _ (rAdd4 K)) (pe_ix (ix_seq : IxR _ (rIx K)) (pv 1) (pv 2) (fun _ _ => rfl)) (pe_ix (ix_seq : IxR _ (rIx K)) (pv 1) (pv 3) (fun _ _ => rfl))) pa_nil))))
      (pss_one (ps_ret (pe_lc (own := [("own", 7), ("keys", 8)]) (g := (gTup K 2 (gCons (gName 7) (gCons (gName 8) gNil)))) (by rfl) sc_shut_ways.nd (pi_list (pv 5)) (blkOk_by (own := [("own", 7), ("keys", 8)]) (N := ["rules", "string", "first", "last", "told", "found", "worth", "own", "keys"]) (sc := defScope s_shut_ways) (by decide +kernel)) (fun _ _ _ _ _ => (pg_tup (by rfl) (pgs_cons (pg_name (i := 7) sc_shut_ways.nd rfl (by first | exact .inl rfl | exact .inr rfl)) (pgs_cons (pg_name (i := 8) sc_shut_ways.nd rfl (by first | exact .inl rfl | exact .inr rfl)) pgs_nil)))) (fun _ _ _ _ _ => pts_nil) (fun _ _ _ _ _ => (pe_tup (pa_cons (pe_op (op_add4 : OpR _ _ (rAdd4 K)) (pv 6) (pv 7)) (pa_cons (pv 8) pa_nil))))))))))))), ?_⟩
  have hn : (z.length : Int) ≤ 12 := by have := zk.le; omega
  refine sIf (b := !(gOf r z).fits i j) (gNot (gB (gCall (RP := R_may_pair) ((gA4 (mR r) (mD (.str z)) (mD (.int i)) (gRul hR) (gV (.str z)) (gV (.int i)) (gV (.int j))).weak fun S2 vs a hv => ?_)))) sS (fun hb S1 H1 g1 => ?_) fun hb S1 H1 g1 => ?_
  · obtain ⟨x1, x2, x3, x4, rfl, hx1, hx2, hx3, hx4⟩ := hv
    cases hx2; cases hx3; cases hx4
    exact ⟨x1, r, z, i, j, rfl, hx1, zk.le, by omega, by omega, rfl⟩
  · refine sRet (eLst gaNil) g1.sh fun v' S5 H5 g5 h5 => q v' S5 H5 (g1.trans g5) ?_
    unfold shutWays
    rw [if_neg (by intro h; rw [h] at hb; exact absurd hb (by decide))]
    exact h5
  have hf : (gOf r z).fits i j = true := by
    cases h : (gOf r z).fits i j with
    | true => rfl
    | false => rw [h] at hb; exact absurd hb (by decide)
  have hR1 := hR.mono g1.ss
  refine sAsg (callTold hR1 ok) g1.sh fun tv S2 H2 g2 ht => ?_
  refine sAsgP (gaCons (eTup (gaCons (gAddI (gTold ht (told_6 r)) (gMul (eSub (eSub (gV (.int j)) (gV (.int i))) gInt) (gTold ht (told_7 r)) (cm_small (by omega)))) (gaCons (eLst gaNil) gaNil))) gaNil) g2.sh fun o xs0 S3 H3 g3 o0 n3 e3 d3 => ?_
  have ho : H o = none := (g1.trans g2).same.free o0
  have hR3 := hR1.mono (g2.ss.trans g3.ss)
  have wl := withinWays_len (g := gOf r z) (i := i) (j := j) (by omega)
  refine sExt (gvI (mV _) rfl) (gCall (RP := R_within_ways) (R := fun S' x => DD S' x (.list ((withinWays (gOf r z) i j).map eWay))) ((gA4 (mR r) (mD (.str z)) (mD (.int i)) (gRul hR3) (gV (.str z)) (gV (.int i)) (gV (.int j))).weak fun S2 vs a hv => ?_)) g3.sh n3 e3 ?_ fun ys S4 H4 g4 hy n4 => ?_
  · obtain ⟨x1, x2, x3, x4, rfl, hx1, hx2, hx3, hx4⟩ := hv
    cases hx2; cases hx3; cases hx4
    exact ⟨x1, r, z, i, j, rfl, hx1, ok, zk, hij, rfl⟩
  · rw [d3.len, List.length_map]
    exact Nat.le_trans (show _ ≤ 2000 by simp only [List.length_cons, List.length_nil]; omega) (by decide)
  have ht4 := mDK _ _ _ _ (g3.ss.trans g4.ss) ht
  refine sApp (gvI (mV _) rfl) (eTup (gaCons (gTold ht4 (told_3 r)) (gaCons (eLst (gaCons (eTup (gaCons gStr (gaCons (gAddI (gV (.int i)) gInt) (gaCons (eSub (gV (.int j)) gInt) gaNil)))) gaNil)) gaNil))) g4.sh n4 upd_same ?_ fun y S5 H5 _ g5 hy5 n5 => ?_
  · rw [List.length_append, d3.len, hy.len, List.length_map]
    exact Nat.lt_of_le_of_lt (show _ ≤ 2000 by simp only [List.length_cons, List.length_nil]; omega) (by decide)
  -- the list is told from here on
  have G5 : Gr [] S H S5 _ := Gr.over1 ((g1.trans g2).trans g3) (g4.trans g5) ho
  have G6 := G5.tell ho n5 upd_same
  have dl : DD (upd S5 o (.lst ((xs0 ++ ys) ++ [y]))) (.ref o) (.list (((((gOf r z).L 6 + (j - i - 1) * (gOf r z).L 7, ([] : List Ky)) :: withinWays (gOf r z) i j) ++ [((gOf r z).L 3, [(Kd.two, i + 1, j - 1)])]).map eWay)) := by
    refine .lst upd_same (DDs.mono (same_upd' n5) ?_)
    exact DDs.flat (DDs.append ((d3.mono (g4.ss.trans g5.ss))) (hy.mono g5.ss)) (.cons hy5 .nil)
  have hR6 := hR.mono G6.ss
  refine sAsg (gCall (RP := R_pair_worth) (R := fun S' x => DD S' x (oD (pwO r (both z i j)))) ((gA2 (mR r) (gRul hR6) (gBoth (gV (.str z)) (gV (.int i)) (gV (.str z)) (gV (.int j)) zk.le (by omega) (by omega))).weak fun S2 vs a hv => ?_)) G6.sh fun pv S7 H7 g7 hp => ?_
  · obtain ⟨x1, x2, rfl, hx1, hx2⟩ := hv
    cases hx2
    exact ⟨x1, r, _, rfl, hx1, rfl⟩
  obtain ⟨pw, hpw⟩ : ∃ pw, pwO r (both z i j) = some pw := by
    have : (pwO r (both z i j)).isSome = true := by
      have h : (decide (j - i > r.span) && (pwO r (both z i j)).isSome) = true := hf
      exact (Bool.and_eq_true_iff.mp h).2
    exact Option.isSome_iff_exists.mp this
  rw [hpw] at hp
  refine sRet (gLc1 _ eWay (fun (w : Way) => eWay ((gOf r z).pw i j + w.1, w.2)) (gV (dl.mono g7.ss)) ?_ fun x hx u S8 e hu => ?_) g7.sh fun v' S9 H9 g9 h9 => q v' S9 H9 (G6.trans (g7.trans g9)) ?_
  · simp only [List.length_append, List.length_cons, List.length_nil]
    exact Nat.le_trans (show _ ≤ 2000 by omega) (by decide)
  · refine turnT2 hu fun a b ha hb => ⟨rfl, gYes, fun _ => ?_⟩
    cases ha
    have epw : (gOf r z).pw i j = pw := by show (pwO r (both z i j)).getD 0 = pw; rw [hpw]; rfl
    rw [epw]
    exact eTup (gaCons (gAddI (gV (hp.mono e)) (gV (.int x.1))) (gaCons (gV hb) gaNil))
  · unfold shutWays
    rw [if_pos hf, List.map_map]
    exact h9
end
end PF
-- part PfMath2
namespace PF
/-- where a key stands in the filling order -/
def kdN : Kd → Int
  | .shut => 0
  | .one => 1
  | .two => 2
  | .opn => 3
def isO : Kd → Int
  | .opn => 1
  | _ => 0
def lst' : Ky → Int
  | (.opn, _, _) => 0
  | (_, _, j) => j
def mlt (a b : Ky) : Prop :=
  isO a.1 < isO b.1 ∨ (isO a.1 = isO b.1 ∧ (b.2.1 < a.2.1 ∨ (b.2.1 = a.2.1 ∧ (lst' a < lst' b ∨ (lst' a = lst' b ∧ kdN a.1 < kdN b.1)))))
theorem mlt_irr (a : Ky) : ¬ mlt a a := by unfold mlt; omega
theorem dep_mlt {g : G} {k k' : Ky} {w : Way} (hw : w ∈ waysM g k) (hk : k' ∈ w.2) : mlt k' k := by
  obtain ⟨kd, i, j⟩ := k
  cases kd with
  | shut =>
    simp only [waysM, shutWays] at hw
    split at hw
    · rw [List.mem_map] at hw
      obtain ⟨w0, hw0, rfl⟩ := hw
      simp only at hk
      rw [List.mem_append, List.mem_cons, List.mem_singleton] at hw0
      rcases hw0 with (rfl | h) | rfl
      · cases hk
      · unfold withinWays at h
        rw [List.mem_flatMap] at h
        obtain ⟨p, hp, h⟩ := h
        rw [List.mem_map] at h
        obtain ⟨q, hq, rfl⟩ := h
        rw [List.mem_singleton] at hk
        subst hk
        have := mem_irange.mp hp
        first | (simp [mlt, isO, lst', kdN]; done) | (simp [mlt, isO, lst', kdN]; omega)
      · rw [List.mem_singleton] at hk
        subst hk
        first | (simp [mlt, isO, lst', kdN]; done) | (simp [mlt, isO, lst', kdN]; omega)
    · cases hw
  | one =>
    simp only [waysM, oneWays] at hw
    rw [List.mem_cons, List.mem_flatMap] at hw
    rcases hw with rfl | ⟨k, hk2, h⟩
    · rw [List.mem_singleton] at hk
      subst hk
      first | (simp [mlt, isO, lst', kdN]; done) | (simp [mlt, isO, lst', kdN]; omega)
    · have := mem_irange.mp hk2
      rw [List.mem_cons, List.mem_singleton] at h
      rcases h with rfl | rfl
      · rw [List.mem_singleton] at hk
        subst hk
        first | (simp [mlt, isO, lst', kdN]; done) | (simp [mlt, isO, lst', kdN]; omega)
      · rw [List.mem_cons, List.mem_singleton] at hk
        rcases hk with rfl | rfl <;> (first | (simp [mlt, isO, lst', kdN]; done) | (simp [mlt, isO, lst', kdN]; omega))
  | two =>
    simp only [waysM, twoWays] at hw
    rw [List.mem_cons, List.mem_map] at hw
    rcases hw with rfl | ⟨k, hk2, rfl⟩
    · rw [List.mem_singleton] at hk
      subst hk
      first | (simp [mlt, isO, lst', kdN]; done) | (simp [mlt, isO, lst', kdN]; omega)
    · have := mem_irange.mp hk2
      rw [List.mem_cons, List.mem_singleton] at hk
      rcases hk with rfl | rfl <;> (first | (simp [mlt, isO, lst', kdN]; done) | (simp [mlt, isO, lst', kdN]; omega))
  | opn =>
    simp only [waysM, openWays] at hw
    split at hw
    · rw [List.mem_singleton] at hw
      subst hw
      cases hk
    · rw [List.mem_cons, List.mem_map] at hw
      rcases hw with rfl | ⟨k, hk2, rfl⟩
      · rw [List.mem_singleton] at hk
        subst hk
        first | (simp [mlt, isO, lst', kdN]; done) | (simp [mlt, isO, lst', kdN]; omega)
      · have := mem_irange.mp hk2
        rw [List.mem_cons, List.mem_singleton] at hk
        rcases hk with rfl | rfl <;> (first | (simp [mlt, isO, lst', kdN]; done) | (simp [mlt, isO, lst', kdN]; omega))
/-- the least of some -/
def IsLeast (os : List (Option Int)) (o : Option Int) : Prop := (∀ y ∈ os, y = none) ∧ o = none ∨ ∃ m, o = some m ∧ some m ∈ os ∧ ∀ x, some x ∈ os → m ≤ x
def setT (K : Tb) (a : Ky) (o : Option Int) : Tb := fun k => if k = a then o else K k
structure Prog (g : G) (K : Tb) (ds : List Ky) : Prop where
  out : ∀ k, k ∉ ds → K k = none
  sound : ∀ k ∈ ds, ∀ w ∈ waysM g k, NoMore (K k) (come K w)
  real : ∀ k ∈ ds, ∀ x, K k = some x → ∃ y ∈ waysM g k, come K y = some x
theorem come_setT {K : Tb} {a : Ky} {o : Option Int} {w : Way} (h : a ∉ w.2) : come (setT K a o) w = come K w := by
  have e : w.2.map (setT K a o) = w.2.map K := List.map_congr_left fun k hk => by
    unfold setT
    rw [if_neg (fun z => h (by rw [← z]; exact hk))]
  unfold come
  rw [e]
theorem Prog.nil {g : G} : Prog g (fun _ => none) [] := ⟨fun _ _ => rfl, by simp, by simp⟩
theorem Prog.step {g : G} {K : Tb} {ds : List Ky} {a : Ky} {o : Option Int} (p : Prog g K ds) (ha : a ∉ ds) (hd : ∀ k ∈ ds, ∀ w ∈ waysM g k, a ∉ w.2) (ho : IsLeast ((waysM g a).map (come K)) o) : Prog g (setT K a o) (ds ++ [a]) := by
  have self : ∀ w ∈ waysM g a, a ∉ w.2 := fun w hw h => mlt_irr a (dep_mlt hw h)
  have at_ : setT K a o a = o := if_pos rfl
  have off : ∀ k, k ≠ a → setT K a o k = K k := fun k h => if_neg h
  refine ⟨fun k hk => ?_, fun k hk w hw => ?_, fun k hk x hx => ?_⟩
  · rw [List.mem_append, List.mem_singleton, not_or] at hk
    rw [off k hk.2]
    exact p.out k hk.1
  · rw [List.mem_append, List.mem_singleton] at hk
    rcases hk with hk | rfl
    · rw [come_setT (hd k hk w hw), off k (fun z => ha (z ▸ hk))]
      exact p.sound k hk w hw
    · rw [come_setT (self w hw), at_]
      intro y hy
      have hm : some y ∈ (waysM g k).map (come K) := List.mem_map.mpr ⟨w, hw, hy⟩
      rcases ho with ⟨h, _⟩ | ⟨m, rfl, _, hle⟩
      · exact absurd (h _ hm) (by simp)
      · exact ⟨m, rfl, hle y hm⟩
  · rw [List.mem_append, List.mem_singleton] at hk
    rcases hk with hk | rfl
    · rw [off k (fun z => ha (z ▸ hk))] at hx
      obtain ⟨y, hy, e⟩ := p.real k hk x hx
      exact ⟨y, hy, by rw [come_setT (hd k hk y hy)]; exact e⟩
    · rw [at_] at hx
      rcases ho with ⟨_, h⟩ | ⟨m, h, hm, _⟩
      · rw [h] at hx; cases hx
      · rw [h] at hx
        cases hx
        obtain ⟨y, hy, e⟩ := List.mem_map.mp hm
        exact ⟨y, hy, by rw [come_setT (self y hy)]; exact e⟩
theorem Prog.fix {g : G} {K : Tb} {ds : List Ky} (p : Prog g K ds) (h : ds.Perm (keysL g.n)) : Fix g K :=
  ⟨fun k hk => p.sound k (h.mem_iff.mpr hk), fun k hk => p.real k (h.mem_iff.mpr hk), fun k hk => p.out k fun z => hk (h.mem_iff.mp z)⟩
/-- the filling order -/
structure Order (n : Int) (os : List Ky) : Prop where
  perm : os.Perm (keysL n)
  srt : os.Pairwise fun a b => ¬ mlt b a
theorem nodup_irange (a b : Int) : (irange a b).Nodup := by
  unfold irange
  rw [List.nodup_iff_pairwise_ne, List.pairwise_map]
  exact List.Pairwise.imp (fun {x y} h => by omega) List.nodup_range
theorem keysL_nodup (n : Int) : (keysL n).Nodup := by
  unfold keysL
  rw [List.nodup_append]
  refine ⟨?_, ?_, ?_⟩
  · rw [List.nodup_iff_pairwise_ne, List.pairwise_map]
    exact List.Pairwise.imp (fun {x y} h e => h (by cases e; rfl)) (nodup_irange _ _)
  · rw [List.nodup_iff_pairwise_ne, List.pairwise_flatMap]
    refine ⟨fun i hi => ?_, List.Pairwise.imp (fun {x y} h => ?_) (nodup_irange _ _)⟩
    · rw [List.pairwise_flatMap]
      refine ⟨fun j hj => ?_, List.Pairwise.imp (fun {x y} h => ?_) (nodup_irange _ _)⟩
      · split <;> simp
      · intro a ha b hb e
        subst e
        have h1 : a.2.2 = x := by
          split at ha <;> simp at ha <;> rcases ha with rfl | rfl | rfl <;> rfl
        have h2 : a.2.2 = y := by
          split at hb <;> simp at hb <;> rcases hb with rfl | rfl | rfl <;> rfl
        exact h (h1.symm.trans h2)
    · intro a ha b hb e
      subst e
      rw [List.mem_flatMap] at ha hb
      obtain ⟨j, _, ha⟩ := ha
      obtain ⟨j', _, hb⟩ := hb
      have h1 : a.2.1 = x := by
        split at ha <;> simp at ha <;> rcases ha with rfl | rfl | rfl <;> rfl
      have h2 : a.2.1 = y := by
        split at hb <;> simp at hb <;> rcases hb with rfl | rfl | rfl <;> rfl
      exact h (h1.symm.trans h2)
  · intro a ha b hb e
    subst e
    rw [List.mem_map] at ha
    obtain ⟨i, _, rfl⟩ := ha
    rw [List.mem_flatMap] at hb
    obtain ⟨p, _, hb⟩ := hb
    rw [List.mem_flatMap] at hb
    obtain ⟨q, _, hb⟩ := hb
    split at hb <;> simp at hb
end PF
-- part PfI
set_option Elab.async false
set_option linter.all false
set_option maxRecDepth 100000
set_option maxHeartbeats 4000000
namespace PF
open PySem PySem.Spec PyProof.Rows L2
mutual
theorem DD.uniq {H : Hp} : ∀ {d e : PyData} {v : V}, DD H v d → DD H v e → d = e
  | .none, e, _, h, k => by cases h; cases k; rfl
  | .bool b, e, _, h, k => by cases h; cases k; rfl
  | .int i, e, _, h, k => by cases h; cases k; rfl
  | .str z, e, _, h, k => by cases h; cases k; rfl
  | .list ds, e, _, h, k => by
    cases h with
    | lst h1 h2 =>
      cases k with
      | lst k1 k2 => rw [h1] at k1; cases k1; rw [DDs.uniq h2 k2]
      | tup k1 k2 => rw [h1] at k1; cases k1
  | .tuple ds, e, _, h, k => by
    cases h with
    | tup h1 h2 =>
      cases k with
      | tup k1 k2 => rw [h1] at k1; cases k1; rw [DDs.uniq h2 k2]
      | lst k1 k2 => rw [h1] at k1; cases k1
  | .dict _, _, _, h, _ => by cases h
theorem DDs.uniq {H : Hp} : ∀ {ds es : List PyData} {vs : List V}, DDs H vs ds → DDs H vs es → ds = es
  | [], _, _, h, k => by cases h; cases k; rfl
  | d :: ds, _, _, h, k => by
    cases h with
    | cons h1 h2 =>
      cases k with
      | cons k1 k2 => rw [DD.uniq h1 k1, DDs.uniq h2 k2]
end
open Classical in
noncomputable def encV (H : Hp) (x : V) : PyData := if h : ∃ d, DD H x d then h.choose else .none
theorem encV_eq {H : Hp} {x : V} {d : PyData} (h : DD H x d) : encV H x = d := by
  have q : ∃ d, DD H x d := ⟨d, h⟩
  unfold encV
  rw [dif_pos q]
  exact DD.uniq q.choose_spec h
theorem encVs_eq {H : Hp} : ∀ {vs : List V} {ds : List PyData}, DDs H vs ds → vs.map (encV H) = ds
  | _, _, .nil => rfl
  | _, _, .cons h t => by rw [List.map_cons, encV_eq h, encVs_eq t]
theorem DDs.enc {H : Hp} : ∀ {vs : List V}, (∀ x ∈ vs, DD H x (encV H x)) → DDs H vs (vs.map (encV H))
  | [], _ => .nil
  | x :: vs, h => .cons (h x List.mem_cons_self) (DDs.enc fun y hy => h y (List.mem_cons_of_mem _ hy))
theorem DDs.mem {H : Hp} : ∀ {vs : List V} {ds : List PyData}, DDs H vs ds → ∀ x ∈ vs, ∃ d ∈ ds, DD H x d
  | _, _, .nil, x, hx => by cases hx
  | _, _, .cons h t, x, hx => by
    rcases List.mem_cons.mp hx with rfl | hx
    · exact ⟨_, List.mem_cons_self, h⟩
    · obtain ⟨d, hd, h⟩ := t.mem x hx
      exact ⟨d, List.mem_cons_of_mem _ hd, h⟩
theorem perm_map_inv {α β : Type} {f : α → β} {l : List α} {m : List β} (h : m.Perm (l.map f)) : ∃ l' : List α, l'.Perm l ∧ m = l'.map f := by
  generalize hk : l.map f = k at h
  induction h generalizing l with
  | nil =>
    cases l with
    | nil => exact ⟨[], .nil, rfl⟩
    | cons a l => cases hk
  | cons x h ih =>
    cases l with
    | nil => cases hk
    | cons a l =>
      cases hk
      obtain ⟨l', p, e⟩ := ih rfl
      exact ⟨a :: l', p.cons a, by rw [e]; rfl⟩
  | swap x y r =>
    cases l with
    | nil => cases hk
    | cons a l =>
      cases l with
      | nil => cases hk
      | cons b l =>
        cases hk
        exact ⟨b :: a :: l, .swap a b l, rfl⟩
  | trans h1 h2 ih1 ih2 =>
    obtain ⟨l', p, e⟩ := ih2 hk
    obtain ⟨l'', p', e'⟩ := ih1 e.symm
    exact ⟨l'', p'.trans p, e'⟩
/-- data that sorted takes -/
structure Srt (ds : List PyData) : Prop where
  al : PySem.W.AllAlike ds
  so : PySem.W.Sortable ds
  de : ∀ d ∈ ds, d.depth ≤ 60
abbrev leDt : PyData → PyData → Bool := PySem.W.dataLe false id
section
variable {K : PySem.W.Frag} {σ : L2.St} {S H : Hp} {tl te : TE} {tt : TT} {t : TA} {vs : List Nat} {g : TG} {ds : List PyData} {D : Ends} {R : Hp → V → Prop}
theorem gSorted (h : GD te σ S (.list ds)) (s : Srt ds) (hr : ∀ S' v ds', Same S S' → ds'.Perm ds → (ds.Pairwise (fun a b => leDt a b = true) → ds' = ds) → DD S' v (.list ds') → R S' v) : Gv (tCB (rSortedDat K) (tCons te tNil)) σ S R := gCB (ga1 h) fun S2 vs a hv S3 H a3 b Q k => by
  obtain ⟨v, rfl, hv⟩ := hv
  obtain ⟨p, xs, rfl, h1, h2⟩ := hv.lstE
  have h2' : DDs S3 xs ds := h2.mono a3
  have em := encVs_eq h2'
  refine ⟨p, xs, encV S3, rfl, SqL.of (b _ _ (a3 _ _ h1)), fun x hx => ?_, by rw [em]; exact s.al, by rw [em]; exact s.so, fun x hx => ?_, fun c hc => ?_⟩
  · obtain ⟨d, hd, h⟩ := h2'.mem x hx
    rw [encV_eq h]
    exact (h.mono b).dp
  · obtain ⟨d, hd, h⟩ := h2'.mem x hx
    rw [encV_eq h]
    exact s.de d hd
  · have hp := List.mergeSort_perm xs (leD (encV S3))
    have hn := b.free hc
    refine k _ _ _ (Gr.new b hc) (hr _ _ ((xs.mergeSort (leD (encV S3))).map (encV S3)) ((a.trans a3).trans (same_upd' hn)) ?_ (fun hs => ?_) (.lst upd_same ?_))
    · rw [← em]
      exact hp.map _
    · rw [← em] at hs ⊢
      rw [List.pairwise_map] at hs
      rw [List.mergeSort_of_pairwise (le := leD (encV S3)) hs]
    · refine (DDs.enc fun x hx => ?_).mono (same_upd' hn)
      obtain ⟨d, hd, h⟩ := h2'.mem x (hp.mem_iff.mp hx)
      rw [encV_eq h]
      exact h
/-- x = [.. for k in range(n)], the list hidden -/
theorem sAsgR11P {i : Nat} {hi : Int} (f : Int → PyData) (hl : GDs t σ S [.int hi]) (h2 : Sm hi) (hz : hi.toNat ≤ sizeLine) (sS : Same S H)
    (hs : ∀ x, 0 ≤ x → x < hi → ∀ S1, Same S S1 → Turn1 σ vs g tt te S1 (.int x) true (f x))
    (q : ∀ p xs S' H', Gr [] S H S' H' → H p = none → S' p = none → H' p = some (.lst xs) → DDs S' xs ((irange 0 hi).map f) → D.nx (σ.set i (some (.ref p))) H') : tAsg (tLc (iRng1 t) g tt te vs) (gName i) D σ H :=
  hl S H (Same.refl _) sS _ fun x S2 H2 g2 hx => by
    obtain ⟨y, r, rfl, hy, hx⟩ := hx.consE
    cases hx; cases hy
    have e0 : (hi - 0).toNat = hi.toNat := by omega
    refine ⟨hi, rfl, h2.1, h2.2, fun Dl hD => ?_⟩
    refine lc_range (LcI (irange 0 hi) (fun _ => true) f Dl S2 H2) (LcI.start g2.sh hD) (fun i H' hi' hp => ?_) fun H' hp => ?_
    · exact hp.turn (irange_get (by rw [e0]; exact hi')) (by rw [irange_len, e0]; exact hz) fun S4 s4 => hs _ (by omega) (by omega) S4 (g2.ss.trans s4)
    · obtain ⟨S', acc, gr, n', e, hacc⟩ := hp
      rw [List.take_of_length_le (by rw [irange_len, e0]; exact Nat.le_refl _), filter_tt] at hacc
      exact q Dl acc S' H' (g2.trans (Gr.over1 (Gr.priv g2.sh hD) gr hD)) (g2.same.free hD) n' e hacc
end
/-! ### tables -/
def kyL (k : Ky) : List Key := [.inr (kdS k.1), .inl k.2.1, .inl k.2.2]
theorem kyL_inj {a b : Ky} (h : kyL a = kyL b) : a = b := by
  obtain ⟨k, i, j⟩ := a
  obtain ⟨k', i', j'⟩ := b
  simp only [kyL, List.cons.injEq, Sum.inr.injEq, Sum.inl.injEq, and_true] at h
  rw [kdS_inj h.1, h.2.1, h.2.2]
abbrev Kvs := List (List Key × V)
def tabV (kvs : Kvs) : Tb := fun k => match valV kvs (kyL k) with
  | some (.int i) => some i
  | _ => none
def TabOk (kvs : Kvs) : Prop := ∀ p ∈ kvs, ∃ o, p.2 = oV o
theorem tabV_get {kvs : Kvs} (h : TabOk kvs) (k : Ky) : (valV kvs (kyL k)).getD .non = oV (tabV kvs k) := by
  unfold tabV
  cases e : valV kvs (kyL k) with
  | none => rfl
  | some v =>
    unfold valV at e
    obtain ⟨p, hp, rfl⟩ := Option.map_eq_some_iff.mp e
    obtain ⟨o, ho⟩ := h p (List.mem_of_find?_eq_some hp)
    rw [ho]
    cases o <;> rfl
theorem srt_keys (l : List Ky) : Srt (l.map eKy) :=
  ⟨PySem.W.AllAlike.of fun a b => by simp [eKy, PySem.W.alike, PySem.W.alikeAll], PySem.W.Sortable.tuples fun b => ⟨_, _, rfl⟩, fun d hd => by
    obtain ⟨k, _, rfl⟩ := List.mem_map.mp hd
    simp [eKy, PyData.depth, PyData.depthAll]⟩
theorem srt_prs (l : List Pr) : Srt (l.map ePr) :=
  ⟨PySem.W.AllAlike.of fun a b => by simp [ePr, PySem.W.alike, PySem.W.alikeAll], PySem.W.Sortable.tuples fun b => ⟨_, _, rfl⟩, fun d hd => by
    obtain ⟨k, _, rfl⟩ := List.mem_map.mp hd
    simp [ePr, PyData.depth, PyData.depthAll]⟩
theorem srt_strs (l : List Str) : Srt (l.map .str) :=
  ⟨PySem.W.AllAlike.of fun a b => by simp [PySem.W.alike], PySem.W.Sortable.others fun b => ⟨by simp, by simp⟩, fun d hd => by
    obtain ⟨k, _, rfl⟩ := List.mem_map.mp hd
    simp [PyData.depth]⟩
def noMoreB (a b : Option Int) : Bool := match b with
  | none => true
  | some y => match a with
    | none => false
    | some x => decide (x ≤ y)
theorem noMoreB_iff {a b : Option Int} : noMoreB a b = true ↔ NoMore a b := by
  unfold noMoreB NoMore
  cases b with
  | none => simp
  | some y => cases a with
    | none => simp
    | some x => simp
end PF
-- part PfP6
set_option Elab.async false
set_option linter.all false
set_option maxRecDepth 100000
set_option maxHeartbeats 4000000
namespace PF
open PySem PySem.Spec PyProof.Rows L2
theorem sc_come_to : FnScope ["way", "known", "own", "keys", "worths", "key"] ["way", "known"] (defScope s_come_to) := ⟨rfl, rfl, rfl, by decide +kernel, rfl, by decide +kernel, by decide +kernel⟩
theorem sc_is_worth : FnScope ["thing"] ["thing"] (defScope s_is_worth) := ⟨rfl, rfl, rfl, by decide +kernel, rfl, by decide +kernel, by decide +kernel⟩
theorem sc_is_row : FnScope ["thing", "key", "kind", "first", "last", "worth", "at"] ["thing", "key"] (defScope s_is_row) := ⟨rfl, rfl, rfl, by decide +kernel, rfl, by decide +kernel, by decide +kernel⟩
theorem sc_is_no_more : FnScope ["worth", "found"] ["worth", "found"] (defScope s_is_no_more) := ⟨rfl, rfl, rfl, by decide +kernel, rfl, by decide +kernel, by decide +kernel⟩
theorem sc_row_keys : FnScope ["many", "found", "at", "first", "last"] ["many"] (defScope s_row_keys) := ⟨rfl, rfl, rfl, by decide +kernel, rfl, by decide +kernel, by decide +kernel⟩
theorem sc_least_of : FnScope ["worths", "worth"] ["worths"] (defScope s_least_of) := ⟨rfl, rfl, rfl, by decide +kernel, rfl, by decide +kernel, by decide +kernel⟩
section
variable {P : Program} {w : World} {K : PySem.W.Frag} {mg : Str → Option Value} {base : Heap} {S : Hp} {σ : L2.St} {ta tb : TE}
theorem kdS_ok (k : Kd) : PyData.strOk (kdS k) = true := by cases k <;> decide +kernel
def R_ways_of : Hp → List V → (Hp → V → Prop) → Prop := fun S vs Post => ∃ (v kv : V) (r : Rl) (z : Str) (key : Ky), vs = [v, .str z, kv] ∧ RulesAt S v r ∧ RlOk r ∧ ZOk z ∧ DD S kv (eKy key) ∧ IsKey (z.length : Int) key ∧ Post = fun S' x => DD S' x (.list ((waysM (gOf r z) key).map eWay))
theorem ok_ways_of {f : Addr} {fd : FuncData} {k : Nat} (F : Fun K "ways_of" "ways_of" s_ways_of f fd) (c_shut_ways : Ok P w K mg base "shut_ways" ["rules", "string", "first", "last"] 3 (spP R_shut_ways))
    (c_one_ways : Ok P w K mg base "one_ways" ["rules", "first", "last"] 2 (spP R_one_ways)) (c_two_ways : Ok P w K mg base "two_ways" ["rules", "first", "last"] 2 (spP R_two_ways)) (c_open_ways : Ok P w K mg base "open_ways" ["rules", "first", "last"] 2 (spP R_open_ways)) (hk : 3 ≤ k) :
    FnOk P w K mg base CX0 (k + 1) f fd ["rules", "string", "key"] (spP R_ways_of) := by
  refine okP F sc_ways_of (fun S vs Post h => by obtain ⟨v, kv, r, z, key, rfl, _⟩ := h; rfl) fun cdv A outer s H S vs Post Q E hr sS h q => ?_
  obtain ⟨v, kv, r, z, ⟨kd, i, j⟩, rfl, hR, ok, zk, hK, hI, rfl⟩ := h
  refine ⟨_, (pss_cons (ps_asg (pv 2) (pg_tup (by rfl) (pgs_cons (pg_name (i := 3) sc_ways_of.nd rfl (by first | exact .inl rfl | exact .inr rfl)) (pgs_cons (pg_name (i := 4) sc_ways_of.nd rfl (by first | exact .inl rfl | exact .inr rfl)) (pgs_cons (pg_name (i := 5) sc_ways_of.nd rfl (by first | exact .inl rfl | exact .inr rfl)) pgs_nil)))))
      (pss_cons (ps_if (pt_cmpR (op_eqD hr.units : OpR _ _ (rEqD K)) (pv 3) pe_str (nomark _)) (pss_one (ps_ret (pe_ok c_shut_ways (hr.mono (by omega)) (by rfl) (pa_cons (pv 0) (pa_cons (pv 1) (pa_cons (pv 4) (pa_cons (pv 5) pa_nil))))))) pss_nil)
      (pss_cons (ps_if (pt_cmpR (op_eqD hr.units : OpR _ _ (rEqD K)) (pv 3) pe_str (nomark _)) (pss_one (ps_ret (pe_ok c_one_ways (hr.mono (by omega)) (by rfl) (pa_cons (pv 0) (pa_cons (pv 4) (pa_cons (pv 5) pa_nil)))))) pss_nil)
      (pss_one (ps_ret (pe_ifExp (pt_cmpR (op_eqD hr.units : OpR _ _ (rEqD K)) (pv 3) pe_str (nomark _)) (pe_ok c_two_ways (hr.mono (by omega)) (by rfl) (pa_cons (pv 0) (pa_cons (pv 4) (pa_cons (pv 5) pa_nil)))) (pe_ok c_open_ways (hr.mono (by omega)) (by rfl) (pa_cons (pv 0) (pa_cons (pv 4) (pa_cons (pv 5) pa_nil)))))))))), ?_⟩
  have hn : (z.length : Int) ≤ 12 := by have := zk.le; omega
  refine sAsgG (gV hK) sS fun x S1 H1 g1 hx => gt3 hx g1.sh fun y1 y2 y3 h1 h2 h3 => ?_
  have hR1 := hR.mono g1.ss
  cases h1; cases h2; cases h3
  refine sIf (gTest (gEqS (gV (.str (kdS kd))) gStr (kdS_ok kd) (kdS_ok .shut))) g1.sh (fun hb S2 H2 g2 => ?_) fun hb0 S2 H2 g2 => ?_
  · obtain rfl : kd = .shut := kdS_inj (of_decide_eq_true hb)
    refine sRet (gCall (RP := R_shut_ways) (R := fun S' x => DD S' x (.list ((shutWays (gOf r z) i j).map eWay))) ((gA4 (mR r) (mD (.str z)) (mD (.int i)) (gRul (hR1.mono g2.ss)) (gV (.str z)) (gV (.int i)) (gV (.int j))).weak fun S2 vs a hv => ?_)) g2.sh fun v' S5 H5 g5 h5 => q v' S5 H5 (g1.trans (g2.trans g5)) h5
    obtain ⟨x1, x2, x3, x4, rfl, hx1, hx2, hx3, hx4⟩ := hv
    cases hx2; cases hx3; cases hx4
    exact ⟨x1, r, z, i, j, rfl, hx1, ok, zk, hI, rfl⟩
  refine sIf (gTest (gEqS (gV (.str (kdS kd))) gStr (kdS_ok kd) (kdS_ok .one))) g2.sh (fun hb S3 H3 g3 => ?_) fun hb S3 H3 g3 => ?_
  · obtain rfl : kd = .one := kdS_inj (of_decide_eq_true hb)
    have hI : 0 ≤ i ∧ i ≤ j ∧ j < (z.length : Int) := hI
    refine sRet (gCall (RP := R_one_ways) (R := fun S' x => DD S' x (.list ((oneWays (gOf r z) i j).map eWay))) ((gA3 (mR r) (mD (.int i)) (gRul (hR1.mono (g2.ss.trans g3.ss))) (gV (.int i)) (gV (.int j))).weak fun S2 vs a hv => ?_)) g3.sh fun v' S5 H5 g5 h5 => q v' S5 H5 (g1.trans (g2.trans (g3.trans g5))) h5
    obtain ⟨x1, x3, x4, rfl, hx1, hx3, hx4⟩ := hv
    cases hx3; cases hx4
    exact ⟨x1, r, z, i, j, rfl, hx1, ok, by omega, rfl⟩
  refine sRet (R := fun S' x => DD S' x (.list ((waysM (gOf r z) (kd, i, j)).map eWay))) (gIf (gTest (gEqS (gV (.str (kdS kd))) gStr (kdS_ok kd) (kdS_ok .two))) (fun hc => ?_) fun hc => ?_) g3.sh fun v' S5 H5 g5 h5 => q v' S5 H5 (g1.trans (g2.trans (g3.trans g5))) h5
  · obtain rfl : kd = .two := kdS_inj (of_decide_eq_true hc)
    have hI : 0 ≤ i ∧ i ≤ j ∧ j < (z.length : Int) := hI
    refine (gCall (RP := R_two_ways) (R := fun S' x => DD S' x (.list ((twoWays (gOf r z) i j).map eWay))) ((gA3 (mR r) (mD (.int i)) (gRul (hR1.mono (g2.ss.trans g3.ss))) (gV (.int i)) (gV (.int j))).weak fun S2 vs a hv => ?_))
    obtain ⟨x1, x3, x4, rfl, hx1, hx3, hx4⟩ := hv
    cases hx3; cases hx4
    exact ⟨x1, r, z, i, j, rfl, hx1, ok, by omega, rfl⟩
  · obtain rfl : kd = .opn := by
      cases kd with
      | opn => rfl
      | shut => exact absurd hb0 (by decide)
      | one => exact absurd hb (by decide)
      | two => exact absurd hc (by decide)
    have hI : 0 ≤ i ∧ i ≤ (z.length : Int) ∧ j = (z.length : Int) - 1 := hI
    refine (gCall (RP := R_open_ways) (R := fun S' x => DD S' x (.list ((openWays (gOf r z) i j).map eWay))) ((gA3 (mR r) (mD (.int i)) (gRul (hR1.mono (g2.ss.trans g3.ss))) (gV (.int i)) (gV (.int j))).weak fun S2 vs a hv => ?_))
    obtain ⟨x1, x3, x4, rfl, hx1, hx3, hx4⟩ := hv
    cases hx3; cases hx4
    exact ⟨x1, r, z, i, j, rfl, hx1, ok, by omega, rfl⟩
def R_come_to : Hp → List V → (Hp → V → Prop) → Prop := fun S vs Post => ∃ (wv dv : V) (y : Way) (kvs : Kvs), vs = [wv, dv] ∧ DD S wv (eWay y) ∧ y.2.length ≤ 100 ∧ IsDT kvs S dv ∧ TabOk kvs ∧ Post = fun S' x => DD S' x (oD (come (tabV kvs) y))
theorem oD_ints : ∀ {os : List (Option Int)}, os.any (·.isNone) = false → os.map oD = (os.map (·.getD 0)).map .int
  | [], _ => rfl
  | none :: os, h => by simp at h
  | some x :: os, h => by
    rw [List.any_cons] at h
    rw [List.map_cons, oD_ints (os := os) (by simpa using h)]
    rfl
theorem ok_come_to {f : Addr} {fd : FuncData} {k : Nat} (F : Fun K "come_to" "come_to" s_come_to f fd) (B : BI mg) : FnOk P w K mg base CX0 (k + 1) f fd ["way", "known"] (spP R_come_to) := by
  refine okP F sc_come_to (fun S vs Post h => by obtain ⟨v, kv, y, kvs, rfl, _⟩ := h; rfl) fun cdv A outer s H S vs Post Q E hr sS h q => ?_
  obtain ⟨wv, dv, ⟨own, ks⟩, kvs, rfl, hw, hl, hd, ok, rfl⟩ := h
  refine ⟨_, (pss_cons (ps_asg (pv 0) (pg_tup (by rfl) (pgs_cons (pg_name (i := 2) sc_come_to.nd rfl (by first | exact .inl rfl | exact .inr rfl)) (pgs_cons (pg_name (i := 3) sc_come_to.nd rfl (by first | exact .inl rfl | exact .inr rfl)) pgs_nil))))
      (pss_cons (ps_setLc (i := 4) (own := [("key", 5)]) (g := (gName 5)) (by rfl) sc_come_to.nd rfl rfl (sw_true rfl rfl rfl (by decide +kernel)) (pi_list (pv 3)) (blkOk_by (own := [("key", 5)]) (N := ["way", "known", "own", "keys", "worths", "key"]) (sc := defScope s_come_to) (by decide +kernel)) (fun _ _ _ _ _ => (pg_name (i := 5) sc_come_to.nd rfl (by first | exact .inl rfl | exact .inr rfl))) (fun _ _ _ _ _ => pts_nil) (fun _ _ _ _ _ => (pe_dget1 (hu_of hr) (pv 1) (pv 5) ⟨rfl, rfl, rfl, rfl⟩)))
      (pss_one (ps_ret (pe_ifExp (pt_cmpR (op_in_seq : OpR _ _ (rIn K false)) pe_non (pv 4) (by rfl)) pe_non (pe_op (op_add4 : OpR _ _ (rAdd4 K)) (pv 2) (pe_callB (cr_sum rfl : CallR _ _ (rSum K)) (by rfl) B.sum (by decide +kernel) (pa_cons (pv 4) pa_nil)))))))), ?_⟩
  refine sAsgG (gV hw) sS fun x S1 H1 g1 hx => gt2 hx g1.sh fun y1 y2 h1 h2 => ?_
  cases h1
  refine sAsg (gLc1 ks eKy (fun key => oD (tabV kvs key)) (gV h2) (Nat.le_trans hl (by decide)) fun x hx u S4 e hu => turnN rfl gYes fun _ => ?_) g1.sh fun lv S2 H2 g2 hl2 => ?_
  · exact gGetT (k := kyL x) (gvI (mDT _) ((mDT _ _ _ _ (g1.ss.trans e) hd))) (gV hu) fun S' _ => by rw [tabV_get ok]; exact DD_oD _
  · have hl3 : DD S2 lv (.list ((ks.map (tabV kvs)).map oD)) := by rw [List.map_map]; exact hl2
    refine sRet (R := fun S' x => DD S' x (oD (come (tabV kvs) (own, ks)))) (gIf (gTest (gInNon (gV hl3))) (fun hc => ?_) fun hc => ?_) g2.sh fun v' S5 H5 g5 h5 => q v' S5 H5 (g1.trans (g2.trans g5)) h5
    · unfold come
      rw [if_pos hc]
      exact gNon
    · unfold come
      rw [if_neg (by rw [hc]; exact Bool.false_ne_true)]
      exact gAddI (gV (.int own)) (gSum (by rw [← oD_ints hc]; exact gV hl3))
def R_is_worth : Hp → List V → (Hp → V → Prop) → Prop := fun S vs Post => ∃ (v : V) (o : Option Int), vs = [v] ∧ DD S v (oD o) ∧ Post = fun S' x => DD S' x (.bool true)
theorem ok_is_worth {f : Addr} {fd : FuncData} {k : Nat} (F : Fun K "is_worth" "is_worth" s_is_worth f fd) (B : BI mg) : FnOk P w K mg base CX0 (k + 1) f fd ["thing"] (spP R_is_worth) := by
  refine okP F sc_is_worth (fun S vs Post h => by obtain ⟨v, o, rfl, _⟩ := h; rfl) fun cdv A outer s H S vs Post Q E hr sS h q => ?_
  obtain ⟨v, o, rfl, hv, rfl⟩ := h
  refine ⟨_, (pss_one (ps_ret (pe_or (pe_cmp (pc_isN (pv 0)) rfl) (pe_one (pe_and (pe_callB (call_isi : CallR _ _ (rIsi K)) (by rfl) B.isinstance (by decide +kernel) (pa_cons (pv 0) (pa_cons (pe_bltn (v := .ty "int") (by rfl) B.int (by decide +kernel) rfl) pa_nil))) (pe_one (pe_not (pe_callB (call_isi : CallR _ _ (rIsi K)) (by rfl) B.isinstance (by decide +kernel) (pa_cons (pv 0) (pa_cons (pe_bltn (v := .ty "bool") (by rfl) B.bool (by decide +kernel) rfl) pa_nil)))))))))), ?_⟩
  refine sRet (R := fun S' x => DD S' x (.bool true)) ?_ sS q
  cases o with
  | none => exact GD.is (gOrV (b := true) (gIsN (gV hv)) fun h => by cases h) rfl
  | some i => exact GD.is (gOrV (b := true) (gIsN (gV hv)) fun h => GD.is (gAndV (b := true) (gIsi (gV hv) kb_ii) fun _ => GD.is (gNotV (gIsi (gV hv) kb_ib)) rfl) rfl) rfl
def R_is_no_more : Hp → List V → (Hp → V → Prop) → Prop := fun S vs Post => ∃ (x y : V) (a b : Option Int), vs = [x, y] ∧ DD S x (oD a) ∧ DD S y (oD b) ∧ Post = fun S' x => DD S' x (.bool (noMoreB a b))
theorem ok_is_no_more {f : Addr} {fd : FuncData} {k : Nat} (F : Fun K "is_no_more" "is_no_more" s_is_no_more f fd) : FnOk P w K mg base CX0 (k + 1) f fd ["worth", "found"] (spP R_is_no_more) := by
  refine okP F sc_is_no_more (fun S vs Post h => by obtain ⟨v, kv, y, kvs, rfl, _⟩ := h; rfl) fun cdv A outer s H S vs Post Q E hr sS h q => ?_
  obtain ⟨x, y, a, b, rfl, hx, hy, rfl⟩ := h
  refine ⟨_, (pss_one (ps_ret (pe_or (pe_cmp (pc_isN (pv 1)) rfl) (pe_one (pe_and (pe_cmp (pc_notN (pv 0)) rfl) (pe_one (pe_cmpR op_le (pv 0) (pv 1) (nomark _)))))))), ?_⟩
  refine sRet (R := fun S' x => DD S' x (.bool (noMoreB a b))) ?_ sS q
  cases b with
  | none => exact GD.is (gOrV (b := true) (gIsN (gV hy)) fun h => by cases h) rfl
  | some i => cases a with
    | none => exact GD.is (gOrV (b := false) (gIsN (gV hy)) fun h => GD.is (gAndV (b := true) (gNotN (gV hx)) fun h => by cases h) rfl) rfl
    | some j => exact GD.is (gOrV (gIsN (gV hy)) fun h => GD.is (gAndV (gNotN (gV hx)) fun h => gCmpI (f := fun i j => decide (i ≤ j)) (gV hx) (gV hy)) rfl) rfl
def R_is_row : Hp → List V → (Hp → V → Prop) → Prop := fun S vs Post => ∃ (x y : V) (k1 k2 : Ky) (o : Option Int), vs = [x, y] ∧ DD S x (eRow k1 o) ∧ DD S y (eKy k2) ∧ Post = fun S' x => DD S' x (.bool (decide (k1 = k2)))
theorem ok_is_row {f : Addr} {fd : FuncData} {k : Nat} (F : Fun K "is_row" "is_row" s_is_row f fd) (B : BI mg) (c_is_worth : Ok P w K mg base "is_worth" ["thing"] 1 (spP R_is_worth)) (hk : 1 ≤ k) : FnOk P w K mg base CX0 (k + 1) f fd ["thing", "key"] (spP R_is_row) := by
  refine okP F sc_is_row (fun S vs Post h => by obtain ⟨v, kv, y, kvs, o, rfl, _⟩ := h; rfl) fun cdv A outer s H S vs Post Q E hr sS h q => ?_
  obtain ⟨x, y, ⟨kd, i, j⟩, ⟨kd2, i2, j2⟩, o, rfl, hx, hy, rfl⟩ := h
  refine ⟨_, (pss_cons (ps_if (PW.pt (pw_or (pt_not (pt_val (pe_callB (call_isi : CallR _ _ (rIsi K)) (by rfl) B.isinstance (by decide +kernel) (pa_cons (pv 0) (pa_cons (pe_bltn (v := .ty "tuple") (by rfl) B.tuple (by decide +kernel) rfl) pa_nil))))) (pw_or (pt_cmpR (op_neD hr.units : OpR _ _ (rNeD K)) (pe_callB (call_lenA : CallR _ _ (rLenA K)) (by rfl) B.len (by decide +kernel) (pa_cons (pv 0) pa_nil)) pe_int (nomark _)) (pw_or1 (pt_not (pt_val (pe_ok c_is_worth (hr.mono (by omega)) (by rfl) (pa_cons (pe_ix (ix_seq : IxR _ (rIx K)) (pv 0) pe_int (fun _ _ => rfl)) pa_nil)))))))) (pss_one (ps_ret pe_bl)) pss_nil)
      (pss_cons (ps_asg (pv 0) (pg_tup (by rfl) (pgs_cons (pg_name (i := 2) sc_is_row.nd rfl (by first | exact .inl rfl | exact .inr rfl)) (pgs_cons (pg_name (i := 3) sc_is_row.nd rfl (by first | exact .inl rfl | exact .inr rfl)) (pgs_cons (pg_name (i := 4) sc_is_row.nd rfl (by first | exact .inl rfl | exact .inr rfl)) (pgs_cons (pg_name (i := 5) sc_is_row.nd rfl (by first | exact .inl rfl | exact .inr rfl)) pgs_nil))))))
      (pss_cons (ps_if (PW.pt (pw_or (pt_not (pt_val (pe_callB (call_isi : CallR _ _ (rIsi K)) (by rfl) B.isinstance (by decide +kernel) (pa_cons (pv 2) (pa_cons (pe_bltn (v := .ty "str") (by rfl) B.str (by decide +kernel) rfl) pa_nil))))) (pw_or1 (pt_not (pt_val (pe_callB (cr_all rfl : CallR _ _ (rAll K)) (by rfl) B.all (by decide +kernel) (pa_cons (pe_lc (own := [("at", 6)]) (g := (gName 6)) (by rfl) sc_is_row.nd (pi_tup (pe_tup (pa_cons (pv 3) (pa_cons (pv 4) pa_nil)))) (blkOk_by (own := [("at", 6)]) (N := ["thing", "key", "kind", "first", "last", "worth", "at"]) (sc := defScope s_is_row) (by decide +kernel)) (fun _ _ _ _ _ => (pg_name (i := 6) sc_is_row.nd rfl (by first | exact .inl rfl | exact .inr rfl))) (fun _ _ _ _ _ => pts_nil) (fun _ _ _ _ _ => (pe_and (pe_callB (call_isi : CallR _ _ (rIsi K)) (by rfl) B.isinstance (by decide +kernel) (pa_cons (pv 6) (pa_cons (pe_bltn (v := .ty "int") (by rfl) B.int (by decide +kernel) rfl) pa_nil))) (pe_one (pe_not (pe_callB (call_isi : CallR _ _ (rIsi K)) (by rfl) B.isinstance (by decide +kernel) (pa_cons (pv 6) (pa_cons (pe_bltn (v := .ty "bool") (by rfl) B.bool (by decide +kernel) rfl) pa_nil)))))))) pa_nil))))))) (pss_one (ps_ret pe_bl)) pss_nil)
      (pss_one (ps_ret (pe_cmpR (op_eqD hr.units : OpR _ _ (rEqD K)) (pe_tup (pa_cons (pv 2) (pa_cons (pv 3) (pa_cons (pv 4) pa_nil)))) (pv 1) (nomark _))))))), ?_⟩
  refine sIf (b := false) (gOr (a := false) (b := false) (gNot (a := true) (gB (gIsi (gV hx) kb_tt))) fun _ => gOr (a := false) (b := false) (gTest (GD.is (gNeD (b := true) (gLenT (gV hx)) gInt rfl rfl rfl) rfl)) fun _ => gNot (a := true) (gB (gCall (RP := R_is_worth) ((ga1 (gIxT (gV hx) gInt (atI_nat (j := 3) rfl))).weak fun S2 vs a hv => ?_)))) sS (fun h => by cases h) fun _ S1 H1 g1 => ?_
  · obtain ⟨u, rfl, hu⟩ := hv
    exact ⟨u, o, rfl, hu, rfl⟩
  refine sAsgG (gV (hx.mono g1.ss)) g1.sh fun x' S2 H2 g2 hx2 => gt4 hx2 g2.sh fun y1 y2 y3 y4 h1 h2 h3 h4 => ?_
  cases h1; cases h2; cases h3
  have hy2 := hy.mono (g1.ss.trans g2.ss)
  refine sIf (b := false) (gOr (a := false) (b := false) (gNot (a := true) (gB (gIsi (gV (.str (kdS kd))) kb_ss))) fun _ => gNot (a := true) (gB (GD.is (gAll (bs := [true, true]) (GD.is (gLcT1 [i, j] .int (fun _ => .bool true) (eTup (gaCons (gV (.int i)) (gaCons (gV (.int j)) gaNil))) (Nat.le_trans (show _ ≤ 64 by simp) (by decide)) fun n hn u S4 e hu => turnN rfl gYes fun _ => ?_) rfl)) rfl))) g2.sh (fun h => by cases h) fun _ S3 H3 g3 => ?_
  · exact GD.is (gAndV (b := true) (gIsi (gV hu) kb_ii) fun _ => GD.is (gNotV (gIsi (gV hu) kb_ib)) rfl) rfl
  · refine sRet (GD.is (gEqD (eTup (gaCons (gV (.str (kdS kd))) (gaCons (gV (.int i)) (gaCons (gV (.int j)) gaNil)))) (gV (hy2.mono g3.ss)) sh_key sh_key eqv_key) rfl) g3.sh fun v' S5 H5 g5 h5 => q v' S5 H5 (g1.trans (g2.trans (g3.trans g5))) h5
end
end PF
-- part PfP7
set_option Elab.async false
set_option linter.all false
set_option maxRecDepth 100000
set_option maxHeartbeats 4000000
namespace PF
open PySem PySem.Spec PyProof.Rows L2
section
variable {P : Program} {w : World} {K : PySem.W.Frag} {mg : Str → Option Value} {base : Heap} {S : Hp} {σ : L2.St} {ta tb : TE}
def R_row_keys : Hp → List V → (Hp → V → Prop) → Prop := fun S vs Post => ∃ (n : Int), vs = [.int n] ∧ (0 ≤ n ∧ n ≤ 12) ∧ Post = fun S' x => ∃ ks : List Ky, ks.Perm (keysL n) ∧ DD S' x (.list (ks.map eKy))
theorem cr_srt {X : Cx} (hu : X.A.units + 64 < cLine) : CallR X (.builtin "sorted") (rSortedDat X.K) := cr_sortedDat hu
theorem ok_row_keys {f : Addr} {fd : FuncData} {k : Nat} (F : Fun K "row_keys" "row_keys" s_row_keys f fd) (B : BI mg) : FnOk P w K mg base CX0 (k + 1) f fd ["many"] (spP R_row_keys) := by
  refine okP F sc_row_keys (fun S vs Post h => by obtain ⟨n, rfl, _⟩ := h; rfl) fun cdv A outer s H S vs Post Q E hr sS h q => ?_
  obtain ⟨n, rfl, hn, rfl⟩ := h
  refine ⟨_, (pss_cons (ps_setLc (i := 1) (own := [("at", 2)]) (g := (gName 2)) (by rfl) sc_row_keys.nd rfl rfl (sw_true rfl rfl rfl (by decide +kernel)) (pi_range1 (by rfl) B.range (pa_cons (pe_op (op_add4 : OpR _ _ (rAdd4 K)) (pv 0) pe_int) pa_nil)) (blkOk_by (own := [("at", 2)]) (N := ["many", "found", "at", "first", "last"]) (sc := defScope s_row_keys) (by decide +kernel)) (fun _ _ _ _ _ => (pg_name (i := 2) sc_row_keys.nd rfl (by first | exact .inl rfl | exact .inr rfl))) (fun _ _ _ _ _ => pts_nil) (fun _ _ _ _ _ => (pe_tup (pa_cons pe_str (pa_cons (pv 2) (pa_cons (pe_op op_sub (pv 0) pe_int) pa_nil))))))
      (pss_cons (ps_for PassesOwn.never rfl (pi_range1 (by rfl) B.range (pa_cons (pv 0) pa_nil)) (pg_name (i := 3) sc_row_keys.nd rfl (by first | exact .inl rfl | exact .inr rfl)) (pss_one (ps_for PassesOwn.never rfl (pi_range2 (by rfl) B.range (pa_cons (pv 3) (pa_cons (pv 0) pa_nil))) (pg_name (i := 4) sc_row_keys.nd rfl (by first | exact .inl rfl | exact .inr rfl)) (pss_cons (ps_expr (pe_bm PySem.F.plainAttrs_list PySem.F.slot_list_extend PySem.F.type_list_extend mt_extend (pv 1) (pa_cons (pe_lst (pa_cons (pe_tup (pa_cons pe_str (pa_cons (pv 3) (pa_cons (pv 4) pa_nil)))) (pa_cons (pe_tup (pa_cons pe_str (pa_cons (pv 3) (pa_cons (pv 4) pa_nil)))) pa_nil))) pa_nil)))
      (pss_one (ps_if (pt_cmpR op_lt (pv 3) (pv 4) (nomark _)) (pss_one (ps_expr (pe_bm PySem.F.plainAttrs_list PySem.F.slot_list_append PySem.F.type_list_append mt_append (pv 1) (pa_cons (pe_tup (pa_cons pe_str (pa_cons (pv 3) (pa_cons (pv 4) pa_nil)))) pa_nil)))) pss_nil))))))
      (pss_one (ps_ret (pe_callB (cr_srt hr.units) (by rfl) B.sorted (by decide +kernel) (pa_cons (pv 1) pa_nil)))))), ?_⟩
  refine sAsgR11P (fun x => eKy (.opn, x, n - 1)) (gaCons (gAddI (gV (.int n)) gInt) gaNil) (sm_of (by omega)) (Nat.le_trans (show _ ≤ 64 by omega) (by decide)) sS (fun x h1 h2 S1 e => turnN rfl gYes fun _ => ?_) fun o xs0 S2 H2 g2 ho n2 e2 d2 => ?_
  · exact eTup (gaCons gStr (gaCons (gV (.int x)) (gaCons (eSub (gV (.int n)) gInt) gaNil)))
  refine fForR1 [o] (fun m σ' S' H' => ∃ e3 e4 xs, σ' = [some (.int n), some (.ref o), none, e3, e4] ∧ S' o = none ∧ H' o = some (.lst xs) ∧ xs.length ≤ 13 + 36 * m ∧
    DDs S' xs (((irange 0 (n + 1)).map (fun i => (Kd.opn, i, n - 1)) ++ ((irange 0 n).take m).flatMap fun i => (irange i n).flatMap fun j => ([(Kd.one, i, j), (Kd.two, i, j)] : List Ky) ++ (if i < j then [(Kd.shut, i, j)] else [])).map eKy))
    (gaCons (gV (.int n)) gaNil) (sm_of (by omega)) g2.sh (fun S3 H3 g3 => ⟨_, _, xs0, rfl, g3.hide n2 e2, g3.same _ _ e2, ?_, ?_⟩) (fun m σ' S' H' N hm g hI hN => ?_) fun σ' S' H' g hI => ?_
  · rw [d2.len, List.length_map, irange_len]; omega
  · rw [List.take_zero, List.flatMap_nil, List.append_nil, List.map_map]
    exact d2.mono g3.ss
  · obtain ⟨e3, e4, xs, rfl, n', eo, hl, hd⟩ := hI
    generalize hp : (0 : Int) + (m : Int) = p at *
    refine fForR2 [o] (fun m2 σ2 S'' H'' => ∃ e4 ys, σ2 = [some (.int n), some (.ref o), none, some (.int p), e4] ∧ S'' o = none ∧ H'' o = some (.lst (xs ++ ys)) ∧ ys.length ≤ 3 * m2 ∧
      DDs S'' ys ((((irange p n).take m2).flatMap fun j => ([(Kd.one, p, j), (Kd.two, p, j)] : List Ky) ++ (if p < j then [(Kd.shut, p, j)] else [])).map eKy))
      (gaCons (gV (.int p)) (gaCons (gV (.int n)) gaNil)) (sm_of (by omega)) (sm_of (by omega)) g.sh (fun S3 H3 g3 => ⟨_, [], rfl, g3.hide n' eo, by rw [List.append_nil]; exact g3.same _ _ eo, by simp, .nil⟩) (fun m2 σ2 S'' H'' N2 hm2 g' hI2 hN2 => ?_) fun σ2 S'' H'' g' hI2 => ?_
    · obtain ⟨e4, ys, rfl, n'', eo', hl', hd'⟩ := hI2
      generalize hq : p + (m2 : Int) = q' at *
      have lz : (xs ++ ys).length ≤ 1000 := by rw [List.length_append]; omega
      refine sExt (gvI (mV _) rfl) (eLst (gaCons (eTup (gaCons gStr (gaCons (gV (.int p)) (gaCons (gV (.int q')) gaNil)))) (gaCons (eTup (gaCons gStr (gaCons (gV (.int p)) (gaCons (gV (.int q')) gaNil)))) gaNil))) g'.sh n'' eo' (Nat.le_trans (show _ ≤ 2000 by simp only [List.length_cons, List.length_nil]; omega) (by decide)) fun zs S3 H3 g3 hz n3 => ?_
      have hz2 := hz.len
      have rest : ∀ (S4 H4 : Hp) (b : Bool), Gr [] S3 (upd H3 o (.lst (xs ++ ys ++ zs))) S4 H4 → decide (p < q') = b → ∃ ts : List V, True := fun _ _ _ _ _ => ⟨[], trivial⟩
      refine sIf (gTest (gCmpI (f := fun i j => decide (i < j)) (gV (.int p)) (gV (.int q')))) g3.sh (fun hb S4 H4 g4 => ?_) fun hb S4 H4 g4 => ?_
      · have n4 := g4.hide n3 upd_same
        have e4 := g4.same _ _ upd_same
        refine sApp (gvI (mV _) rfl) (eTup (gaCons gStr (gaCons (gV (.int p)) (gaCons (gV (.int q')) gaNil)))) g4.sh n4 e4 ?_ fun y S5 H5 _ g5 hy n5 => ?_
        · rw [List.length_append, hz2]
          exact Nat.lt_of_le_of_lt (show _ ≤ 2000 by simp only [List.length_cons, List.length_nil]; omega) (by decide)
        · refine hN2 _ S5 _ (g3.trans (g4.up0.trans g5)) ⟨_, ys ++ zs ++ [y], rfl, n5, by rw [upd_same, List.append_assoc, List.append_assoc, List.append_assoc], ?_, ?_⟩
          · simp only [List.length_append, hz2, List.length_cons, List.length_nil]; omega
          · rw [take_flatMap (irange_get (by omega)), hq, if_pos (of_decide_eq_true hb), List.append_assoc ys]
            exact (hd'.mono ((g3.ss.trans g4.ss).trans g5.ss)).flat (DDs.flat (a := [(Kd.one, p, q'), (Kd.two, p, q')]) (b := [(Kd.shut, p, q')]) (hz.mono (g4.ss.trans g5.ss)) (.cons hy .nil))
      · refine hN2 _ S4 _ (g3.trans g4.up0) ⟨_, ys ++ zs, rfl, g4.hide n3 upd_same, by rw [← List.append_assoc]; exact g4.same _ _ upd_same, ?_, ?_⟩
        · simp only [List.length_append, hz2, List.length_cons, List.length_nil]; omega
        · rw [take_flatMap (irange_get (by omega)), hq, if_neg (of_decide_eq_false hb), List.append_nil]
          exact (hd'.mono (g3.ss.trans g4.ss)).flat (b := [(Kd.one, p, q'), (Kd.two, p, q')]) (hz.mono g4.ss)
    · obtain ⟨e4, ys, rfl, n'', eo', hl', hd'⟩ := hI2
      refine hN _ S'' _ g' ⟨_, _, _, rfl, n'', eo', ?_, ?_⟩
      · rw [List.length_append]; omega
      · rw [List.take_of_length_le (by rw [irange_len]; omega)] at hd'
        rw [take_flatMap (irange_get (by omega)), hp, ← List.append_assoc]
        exact (hd.mono g'.ss).flat hd'
  · obtain ⟨e3, e4, xs, rfl, n', eo, hl, hd⟩ := hI
    rw [List.take_of_length_le (by rw [irange_len]; omega)] at hd
    have G := (Gr.over1 g2 g ho).tell ho n' eo
    have dl : DD (upd S' o (.lst xs)) (.ref o) (.list ((keysL n).map eKy)) := .lst upd_same (hd.mono (same_upd' n'))
    refine sRet (gSorted (R := fun S' x => ∃ ks : List Ky, ks.Perm (keysL n) ∧ DD S' x (.list (ks.map eKy))) (gV dl) (srt_keys _) fun S5 v5 ds' e hp _ hd5 => ?_) G.sh fun v5 S5 H5 g5 h5 => q v5 S5 H5 (G.trans g5) h5
    obtain ⟨l', p, rfl⟩ := perm_map_inv hp
    exact ⟨l', p, hd5⟩
/-! ### least_of -/
def R_least_of : Hp → List V → (Hp → V → Prop) → Prop := fun S vs Post => ∃ (v : V) (os : List (Option Int)), vs = [v] ∧ DD S v (.list (os.map oD)) ∧ os.length ≤ 10000 ∧ Post = fun S' x => ∃ o, IsLeast os o ∧ DD S' x (oD o)
theorem somes : ∀ os : List (Option Int), (os.filter fun o => !o.isNone).map oD = (os.filterMap id).map .int
  | [] => rfl
  | none :: os => by
    rw [List.filter_cons, if_neg (by decide), somes os]
    rfl
  | some x :: os => by
    rw [List.filter_cons, if_pos (by rfl), List.map_cons, somes os]
    rfl
theorem gMinD {R : Hp → V → Prop} {ns : List Int} (h : GD ta σ S (.list (ns.map .int))) (q0 : ns = [] → ∀ S', Same S S' → R S' .non) (q1 : ∀ m, m ∈ ns → (∀ x ∈ ns, m ≤ x) → ∀ S', Same S S' → R S' (.int m)) :
    Gv (tCKw (rMinD K) (tCons ta tNil) (tCons (tC .non) tNil)) σ S R := fun S1 H a b Q q => h S1 H a b _ fun x S2 H2 g hx => by
  obtain ⟨p, xs, rfl, h1, h2⟩ := hx.lstE
  obtain rfl := h2.ints
  exact ⟨p, ns, rfl, rfl, SqL.of (g.sh _ _ h1), fun e => q _ S2 H2 g (q0 e _ (a.trans g.ss)), fun m hm hle => q _ S2 H2 g (q1 m hm hle _ (a.trans g.ss))⟩
theorem ok_least_of {f : Addr} {fd : FuncData} {k : Nat} (F : Fun K "least_of" "least_of" s_least_of f fd) (B : BI mg) : FnOk P w K mg base CX0 (k + 1) f fd ["worths"] (spP R_least_of) := by
  refine okP F sc_least_of (fun S vs Post h => by obtain ⟨n, _, rfl, _⟩ := h; rfl) fun cdv A outer s H S vs Post Q E hr sS h q => ?_
  obtain ⟨v, os, rfl, hv, hl, rfl⟩ := h
  refine ⟨_, (pss_one (ps_ret (pe_callBK (cr_minD rfl) (by rfl) B.min (by decide +kernel) (pa_cons (pe_lc (own := [("worth", 1)]) (g := (gName 1)) (by rfl) sc_least_of.nd (pi_list (pv 0)) (blkOk_by (own := [("worth", 1)]) (N := ["worths", "worth"]) (sc := defScope s_least_of) (by decide +kernel)) (fun _ _ _ _ _ => (pg_name (i := 1) sc_least_of.nd rfl (by first | exact .inl rfl | exact .inr rfl))) (fun _ _ _ _ _ => (pts_one (pt_cmp (pc_notN (pv 1)) rfl))) (fun _ _ _ _ _ => (pv 1))) pa_nil) (pk_cons pe_non pk_nil)))), ?_⟩
  refine sRet (gMinD (ns := os.filterMap id) (R := fun S' x => ∃ o, IsLeast os o ∧ DD S' x (oD o)) (GD.is (gLc os oD (fun o => !o.isNone) oD (gV hv) (Nat.le_trans hl (by decide)) fun x hx u S4 e hu => turnN rfl (gB (GD.is (gNotN (gV hu)) (by rw [noneD_oD]))) fun _ => gV hu) (by rw [somes]))
    (fun he S' _ => ⟨none, .inl ⟨fun y hy => ?_, rfl⟩, .non⟩) fun m hm hle S' _ => ⟨some m, .inr ⟨m, rfl, ?_, fun x hx => hle x ?_⟩, .int m⟩) sS q
  · cases y with
    | none => rfl
    | some y =>
      have : y ∈ os.filterMap id := List.mem_filterMap.mpr ⟨_, hy, rfl⟩
      rw [he] at this
      cases this
  · obtain ⟨o, ho, e⟩ := List.mem_filterMap.mp hm
    rw [← show o = some m from e]
    exact ho
  · exact List.mem_filterMap.mpr ⟨_, hx, rfl⟩
end
end PF
-- part PfJ
set_option Elab.async false
set_option linter.all false
set_option maxRecDepth 100000
set_option maxHeartbeats 4000000
/-! growth where the code tables change; sources of unknown order; dicts under way -/
namespace PF
open PySem PySem.Spec PyProof.Rows L2 LamX NdefX
def NT (o : HO) : Prop := ∀ ps, o ≠ .tbl ps
def NU (o : HO) : Prop := NT o ∧ ∀ xs, o ≠ .tup xs
structure Gw (ex : List Addr) (S H S' H' : Hp) : Prop where
  hh : ∀ b o, b ∉ ex → NT o → H b = some o → H' b = some o
  al : ∀ b o, NU o → H b = some o → ∃ o', NU o' ∧ H' b = some o'
  ss : Same S S'
  sh : Same S' H'
  hid : ∀ b o, NU o → S b = none → H b = some o → S' b = none
  nt : NoT S → NoT S'
theorem nonT_of {H : Hp} {b : Addr} {o : HO} (e : H b = some o) (n : NU o) : nonT (H b) := by
  rw [e]
  exact ⟨by simp, fun xs z => n.2 xs (Option.some.inj z)⟩
theorem Gr.w {S H S' H' : Hp} (g : Gr [] S H S' H') : Gw [] S H S' H' :=
  ⟨fun b o n _ e => g.hh b o n e, fun b o n e => ⟨o, n, g.same b o e⟩, g.ss, g.sh, fun b o n e1 e2 => g.hid b e1 (nonT_of e2 n), g.nt⟩
theorem Gr.wp {p : Addr} {xs : List V} {S H S' H' : Hp} (g : Gr [p] S H S' H') (e : H' p = some (.lst xs)) : Gw [p] S H S' H' :=
  ⟨fun b o n _ e => g.hh b o n e, fun b o n e1 => by
    by_cases h : b = p
    · rw [h]; exact ⟨.lst xs, ⟨(fun ps z => nomatch z), (fun ps z => nomatch z)⟩, e⟩
    · exact ⟨o, n, g.hh b o (by simpa using h) e1⟩, g.ss, g.sh, fun b o n e1 e2 => g.hid b e1 (nonT_of e2 n), g.nt⟩
theorem Gw.trans {ex : List Addr} {S H S1 H1 S2 H2 : Hp} (a : Gw ex S H S1 H1) (b : Gw ex S1 H1 S2 H2) : Gw ex S H S2 H2 :=
  ⟨fun x o n t e => b.hh x o n t (a.hh x o n t e), fun x o n e => by
    obtain ⟨o', n', e'⟩ := a.al x o n e
    exact b.al x o' n' e', a.ss.trans b.ss, b.sh, fun x o t e n => by
    obtain ⟨o', n', e'⟩ := a.al x o t n
    exact b.hid x o' n' (a.hid x o t e n) e', fun z => b.nt (a.nt z)⟩
theorem Gw.up {ex ex' : List Addr} {S H S1 H1 : Hp} (a : Gw ex S H S1 H1) (h : ∀ b ∈ ex, b ∈ ex') : Gw ex' S H S1 H1 := ⟨fun x o n t e => a.hh x o (fun z => n (h x z)) t e, a.al, a.ss, a.sh, a.hid, a.nt⟩
theorem Gw.up0 {ex : List Addr} {S H S1 H1 : Hp} (a : Gw [] S H S1 H1) : Gw ex S H S1 H1 := a.up (by simp)
/-- a loop over a place made since -/
theorem Gw.over1 {o : Addr} {S H S1 H1 S2 H2 : Hp} (a : Gw [] S H S1 H1) (b : Gr [o] S1 H1 S2 H2) (h : H o = none) : Gw [] S H S2 H2 := by
  have hk : ∀ x u, NT u → H x = some u → H2 x = some u := fun x u t e => b.hh x u (fun z => by rw [List.mem_singleton.mp z] at e; rw [h] at e; cases e) (a.hh x u (by simp) t e)
  exact ⟨fun x u _ t e => hk x u t e, fun x u n e => ⟨u, n, hk x u n.1 e⟩, a.ss.trans b.ss, b.sh, fun x u t e n => b.hid x (a.hid x u t e n) (nonT_of (a.hh x u (by simp) t.1 n) t), fun z => b.nt (a.nt z)⟩
theorem Gw.tell {ex : List Addr} {S H S1 H1 : Hp} {p : Addr} {o : HO} (a : Gw ex S H S1 H1) (n : ∀ u, NT u → H p ≠ some u) (n1 : S1 p = none) (e1 : H1 p = some o) (ho : NT o := by intro ps e; cases e) : Gw ex S H (upd S1 p o) H1 := by
  refine ⟨a.hh, a.al, a.ss.trans fun b u e => ?_, fun b u e => ?_, fun b u t e m => ?_, fun z => (a.nt z).upd ho⟩
  · rw [upd_ne (ne_of_none e n1)]; exact e
  · by_cases hb : b = p
    · subst hb; rw [upd_same] at e; cases e; exact e1
    · rw [upd_ne hb] at e; exact a.sh b u e
  · rw [upd_ne (fun z => n u t.1 (by rw [← z]; exact m))]; exact a.hid b u t e m
theorem Gw.hide {ex : List Addr} {S H S1 H1 : Hp} {p : Addr} {xs : List V} (g : Gw ex S H S1 H1) (n : S p = none) (e : H p = some (.lst xs)) : S1 p = none := g.hid p _ ⟨fun ps z => (by cases z), fun ps z => (by cases z)⟩ n e
theorem TabS.gr {S H S' H' : Hp} {P : Addr} {q : Str} (t : TabS H P q) (g : Gr [] S H S' H') : TabS H' P q := t.ext g.same
theorem TabS.same {H H' : Hp} {P : Addr} {q : Str} (t : TabS H P q) (h : ∀ b o, b ∉ ([] : List Addr) → H b = some o → H' b = some o) : TabS H' P q := t.ext fun b o e => h b o (by simp) e
section
variable {K : PySem.W.Frag} {σ : L2.St} {S S' H : Hp} {ta tb te tc tl : TE} {tt : TT} {vs : List Nat} {g : TG} {D : Ends}
theorem gLcE {α : Type} (enc : α → PyData) (p : α → Bool) (f : α → PyData) (Pl : List α → Prop) (hl : Gv tl σ S fun S' v => ∃ l, Pl l ∧ DD S' v (.list (l.map enc))) (hz : ∀ l, Pl l → l.length ≤ sizeLine)
    (hs : ∀ l, Pl l → ∀ x ∈ l, ∀ v S1, Same S S1 → DD S1 v (enc x) → Turn1 σ vs g tt te S1 v (p x) (f x)) : Gv (tLc (iList K tl) g tt te vs) σ S fun S' v => ∃ l, Pl l ∧ DD S' v (.list ((l.filter p).map f)) := fun S1 H a b Q q =>
  hl S1 H a b _ fun x S2 H2 g2 hx => by
    obtain ⟨l, hP, hx⟩ := hx
    obtain ⟨A, xs, rfl, h1, h2⟩ := hx.lstE
    refine ⟨A, rfl, ⟨xs, SqL.of (g2.sh _ _ h1)⟩, fun Dl hD => ?_⟩
    refine lc_list (xs := xs) (LcI l p f Dl S2 H2) (LcI.start g2.sh hD) (fun i H' _ hp => ?_) (fun i x H' hx hp => ?_) fun H' hp => hp.done (by rw [h2.len, List.length_map]) g2 hD fun v S' H' g' h' => q v S' H' g' ⟨l, hP, h'⟩
    · obtain ⟨S', acc, gr, _⟩ := hp
      exact SqL.of (gr.sh _ _ (gr.ss _ _ h1))
    · obtain ⟨d, hd, hv⟩ := h2.get hx
      obtain ⟨z, hz', rfl⟩ := map_get hd
      exact hp.turn hz' (hz l hP) fun S4 s4 => hs l hP z (List.mem_of_getElem? hz') x S4 ((a.trans g2.ss).trans s4) (hv.mono s4)
/-- range(a, b, -1) -/
def drange (lo : Int) (n : Nat) : List Int := (List.range n).map fun (i : Nat) => lo - (i : Int)
theorem gLcD {t : TA} {lo hi : Int} (f : Int → PyData) (hl : GDs t σ S [.int lo, .int hi, .int (-1)]) (h1 : -1000 ≤ hi ∧ hi ≤ lo ∧ lo ≤ 1000)
    (hs : ∀ x, hi < x → x ≤ lo → ∀ S1, Same S S1 → Turn1 σ vs g tt te S1 (.int x) true (f x)) : GD (tLc (iRng3 t) g tt te vs) σ S (.list ((drange lo (lo - hi).toNat).map f)) := fun S1 H a b Q q =>
  hl S1 H a b _ fun x S2 H2 g2 hx => by
    obtain ⟨y, r, rfl, hy, hx⟩ := hx.consE
    obtain ⟨z, r, rfl, hz', hx⟩ := hx.consE
    obtain ⟨w, r, rfl, hw, hx⟩ := hx.consE
    cases hx; cases hy; cases hz'; cases hw
    have hl : (drange lo (lo - hi).toNat).length = (lo - hi).toNat := by unfold drange; rw [List.length_map, List.length_range]
    refine ⟨lo, hi, -1, (lo - hi).toNat, rfl, ?_, fun Dl hD => ⟨fun i m H => m = (lo - hi).toNat - i ∧ i ≤ (lo - hi).toNat ∧ LcI (drange lo (lo - hi).toNat) (fun _ => true) f Dl S2 H2 i H, ⟨_, rfl, Nat.zero_le _, LcI.start g2.sh hD⟩, ?_⟩⟩
    · exact RgC.neg (i := lo) (j := hi) (by omega) (by omega) (by omega) (by omega)
    · rintro i m H' ⟨rfl, hi', hp⟩
      by_cases hlt : i < (lo - hi).toNat
      · refine .inr ⟨hlt, fun H' => LcI (drange lo (lo - hi).toNat) (fun _ => true) f Dl S2 H2 (i + 1) H', fun H' p' => ⟨(lo - hi).toNat - (i + 1), by omega, rfl, hlt, p'⟩, fun x H'' y => ?_⟩
        obtain ⟨rfl, rfl⟩ := y
        have hget : (drange lo (lo - hi).toNat)[i]? = some (lo + (i : Nat) * (-1)) := by
          unfold drange
          rw [List.getElem?_map, List.getElem?_range hlt]
          show some (lo - (i : Int)) = _
          congr 1
          omega
        exact hp.turn hget (by rw [hl]; exact Nat.le_trans (show _ ≤ 2000 by omega) (by decide)) fun S4 s4 => hs _ (by omega) (by omega) S4 ((a.trans g2.ss).trans s4)
      · have e : i = (lo - hi).toNat := by omega
        subst e
        exact .inl ⟨Nat.le_refl _, hp.done hl.symm g2 hD fun v S' H' g' h' => q v S' H' g' (by rw [filter_tt] at h'; exact h')⟩
end
end PF
-- part PfP8
set_option Elab.async false
set_option linter.all false
set_option maxRecDepth 100000
set_option maxHeartbeats 4000000
namespace PF
open PySem PySem.Spec PyProof.Rows L2 LamX NdefX
/-! the order of three ints -/
def lt3 (a b : I3) : Prop := a.1 < b.1 ∨ (a.1 = b.1 ∧ (a.2.1 < b.2.1 ∨ (a.2.1 = b.2.1 ∧ a.2.2 < b.2.2)))
instance (a b : I3) : Decidable (lt3 a b) := by unfold lt3; infer_instance
theorem dataLt_3 (a b : I3) : PySem.W.dataLt (dat3 a) (dat3 b) = decide (lt3 a b) := by
  unfold dat3
  rw [PySem.W.dataLt_tuple, PySem.W.dataLt_cons (by simp [PySem.W.alike]), PySem.W.dataLt_cons (by simp [PySem.W.alike]), PySem.W.dataLt_cons (by simp [PySem.W.alike]), PySem.W.dataLt_int, PySem.W.dataLt_int, PySem.W.dataLt_int]
  have e : PyProof.Rows.lexLt itemOrd (PySem.W.keyToksAll []) (PySem.W.keyToksAll []) = false := PyProof.Rows.lex_irrefl _
  rw [e]
  unfold lt3
  simp only [PyData.eqv, beq_iff_eq]
  by_cases h1 : a.1 = b.1 <;> by_cases h2 : a.2.1 = b.2.1 <;> by_cases h3 : a.2.2 = b.2.2 <;> simp [h1, h2, h3]
theorem le3_eq {β : Type} (kf : β → I3) : PySem.W.dataLe false (fun x => dat3 (kf x)) = fun p q => !decide (lt3 (kf q) (kf p)) := by
  funext p q
  show (!PySem.W.dataLt (dat3 (kf q)) (dat3 (kf p))) = _
  rw [dataLt_3]
theorem sorted3 {β : Type} (kf : β → I3) (l : List β) : (l.mergeSort (PySem.W.dataLe false fun x => dat3 (kf x))).Pairwise fun p q => ¬ lt3 (kf q) (kf p) := by
  have h := List.pairwise_mergeSort (le := PySem.W.dataLe false fun x => dat3 (kf x)) (fun a b c h1 h2 => ?_) (fun a b => ?_) l
  · refine h.imp fun {p q} e => ?_
    rw [le3_eq] at e
    simpa using e
  · rw [le3_eq] at h1 h2 ⊢
    simp only [Bool.not_eq_true', decide_eq_false_iff_not] at h1 h2 ⊢
    unfold lt3 at *
    omega
  · rw [le3_eq]
    simp only [Bool.or_eq_true, Bool.not_eq_true', decide_eq_false_iff_not]
    unfold lt3
    omega
def kfD (d : PyData) : I3 := match d with
  | .tuple [.str s, .int i, .int j] => (-i, j, if s = "shut" then 0 else if s = "one" then 1 else 2)
  | _ => (0, 0, 0)
def keyI (k : Ky) : I3 := (-k.2.1, k.2.2, kdN k.1)
theorem kfD_key {k : Ky} (h : k.1 ≠ .opn) : kfD (eKy k) = keyI k := by
  obtain ⟨kd, i, j⟩ := k
  cases kd <;> first | rfl | exact absurd rfl h
theorem mlt_lt3 {a b : Ky} (ha : a.1 ≠ .opn) (hb : b.1 ≠ .opn) (h : mlt a b) : lt3 (keyI a) (keyI b) := by
  obtain ⟨ka, i, j⟩ := a
  obtain ⟨kb, i', j'⟩ := b
  cases ka <;> cases kb <;> first | exact absurd rfl ha | exact absurd rfl hb | (simp [mlt, isO, lst', kdN, lt3, keyI] at h ⊢; omega) | (simp [mlt, isO, lst', kdN, lt3, keyI] at h ⊢)
theorem sc_filling_order : FnScope ["many", "inner", "key", "sorts", "at"] ["many"] (defScope s_filling_order) := ⟨rfl, rfl, rfl, by decide +kernel, rfl, by decide +kernel, by decide +kernel⟩
section
variable {P : Program} {w : World} {K : PySem.W.Frag} {mg : Str → Option Value} {base : Heap} {S : Hp} {σ : L2.St} {ta tb : TE}
def inOpn (k : Ky) : Bool := decide (k.1 ≠ .opn)
theorem order_perm {n : Int} {ks ms : List Ky} (hn : 0 ≤ n) (hp : ks.Perm (keysL n)) (hm : ms.Perm (ks.filter inOpn)) : (ms ++ (drange n (n + 1).toNat).map fun x => ((Kd.opn, x, n - 1) : Ky)).Perm (keysL n) := by
  have h1 : ms.Perm ((keysL n).filter inOpn) := hm.trans (hp.filter _)
  have h2 : (keysL n).filter inOpn = (irange 0 n).flatMap fun i => (irange i n).flatMap fun j => [(Kd.one, i, j), (Kd.two, i, j)] ++ (if i < j then [(Kd.shut, i, j)] else []) := by
    unfold keysL
    rw [List.filter_append, List.filter_eq_nil_iff.mpr fun a ha => ?_, List.nil_append, List.filter_eq_self.mpr fun a ha => ?_]
    · rw [List.mem_flatMap] at ha
      obtain ⟨p, _, ha⟩ := ha
      rw [List.mem_flatMap] at ha
      obtain ⟨q, _, ha⟩ := ha
      unfold inOpn
      split at ha <;> simp at ha <;> rcases ha with rfl | rfl | rfl <;> rfl
    · rw [List.mem_map] at ha
      obtain ⟨i, _, rfl⟩ := ha
      simp [inOpn]
  have h3 : ((drange n (n + 1).toNat).map fun x => (Kd.opn, x, n - 1)).Perm ((irange 0 (n + 1)).map fun i => (Kd.opn, i, n - 1)) := by
    refine List.Perm.map _ ?_
    have e : drange n (n + 1).toNat = (irange 0 (n + 1)).reverse := by
      refine List.ext_getElem? fun i => ?_
      unfold drange irange
      rw [← List.map_reverse, List.getElem?_map, List.getElem?_map]
      by_cases hi : i < (n + 1).toNat
      · rw [List.getElem?_range hi, List.getElem?_reverse (by rw [List.length_range]; omega), List.length_range, List.getElem?_range (by omega)]
        simp only [Option.map_some]
        congr 1
        omega
      · rw [List.getElem?_eq_none (by rw [List.length_range]; omega), List.getElem?_eq_none (by rw [List.length_reverse, List.length_range]; omega)]
        rfl
    rw [e]
    exact List.reverse_perm _
  rw [h2] at h1
  exact (h1.append h3).trans List.perm_append_comm
theorem order_of {n : Int} {ks ms : List Ky} (hn : 0 ≤ n) (hp : ks.Perm (keysL n)) (hm : ms.Perm (ks.filter inOpn)) (hs : ms.Pairwise fun a b => ¬ lt3 (keyI b) (keyI a)) : Order n (ms ++ (drange n (n + 1).toNat).map fun x => (Kd.opn, x, n - 1)) := by
  have inner : ∀ k ∈ ms, k.1 ≠ .opn := fun k hk => by
    have := (List.mem_filter.mp (hm.mem_iff.mp hk)).2
    exact of_decide_eq_true this
  refine ⟨order_perm hn hp hm, ?_⟩
  · rw [List.pairwise_append]
    refine ⟨List.Pairwise.imp_of_mem (fun {a b} ha hb h m => h (mlt_lt3 (inner b hb) (inner a ha) m)) hs, ?_, fun a ha b hb m => ?_⟩
    · rw [List.pairwise_map]
      unfold drange
      rw [List.pairwise_map]
      refine List.Pairwise.imp (fun {a b} h m => ?_) List.pairwise_lt_range
      simp [mlt, isO, lst', kdN] at m
      omega
    · have h1 := inner a ha
      rw [List.mem_map] at hb
      obtain ⟨x, _, rfl⟩ := hb
      obtain ⟨ka, i, j⟩ := a
      cases ka <;> first | exact absurd rfl h1 | simp [mlt, isO] at m
end
end PF
-- part PfP9
set_option Elab.async false
set_option linter.all false
set_option maxRecDepth 100000
set_option maxHeartbeats 4000000
namespace PF
open PySem PySem.Spec PyProof.Rows L2 LamX NdefX
/-- a def of the text whose code object is known -/
structure FunC (K : PySem.W.Frag) (x qual : Str) (st : Stmt) (f : Addr) (fd : FuncData) (c : Addr) : Prop where
  ex : ∃ (oc : Value) (od : Option Addr) (kV doc pm : Value) (an : Option Addr) (ct : Value) (osl : Array (Option Value)),
    fd = PySem.W.fnOf x qual (defArgs st) (defBody st) (defScope st) .none kV doc pm an (.ref c) ct ∧ K.lookup f = some ⟨oc, od, .func fd, osl⟩ ∧ PySem.W.codeIn K (.ref c) qual = true
theorem FunC.ok {P : Program} {w : World} {K : PySem.W.Frag} {mg : Str → Option Value} {base : Heap} {x qual : Str} {st : Stmt} {f c : Addr} {fd : FuncData} {N ps : List Str} {k : Nat} {sp : Sp} (F : FunC K x qual st f fd c) (Sc : FnScope N ps (defScope st)) (len : ∀ vs H Q E, sp vs H Q E → vs.length = ps.length)
    (hbody : ∀ (A : Around) (outer : List Env) (s : Shared) (H : Hp) (vs : List V) (Q : VK) (E : XK), Room k (A.deeper (envOfC qual (defScope st) s.heap.objs.size f (.ref c))) → sp vs H Q E →
      ∃ t, PSs (cxOf CX0 P w K mg base N qual (defScope st) f (.ref c) A outer s H E).nox (defBody st) t ∧ t { nx := fun _ H' => Q .non H', rt := Q } (start N vs) H) : FnOk P w K mg base CX0 (k + 1) f fd ps sp := by
  obtain ⟨oc, od, kV, doc, pm, an, ct, osl, rfl, lk, hcd⟩ := F.ex
  refine fn_of lk hcd Sc len fun A outer s H vs Q E hr hsp => ?_
  obtain ⟨t, h, q⟩ := hbody A outer s H vs Q E hr hsp
  exact ⟨t, h.nox, q⟩
section
variable {P : Program} {w : World} {K : PySem.W.Frag} {mg : Str → Option Value} {base : Heap} {S : Hp} {σ : L2.St} {ta tb : TE}
/-- the reading of t.index(x) -/
def rIdx (K : PySem.W.Frag) : V → List V → Hp → VK → Prop := fun x xs H Q => ∃ p, ∃ ys : List Str, ∃ z j, x = .ref p ∧ xs = [.str z] ∧ SqT K H p (ys.map V.str) ∧ ys[j]? = some z ∧ (∀ m, m < j → ys[m]? ≠ some z) ∧ Q (.int (j : Nat)) H
theorem mt_idx {X : Cx} : MtR X "tuple.index" (rIdx X.K) := mt_tup_index
def IsTF (zs : List Str) (S : Hp) (v : V) : Prop := ∃ p, v = .ref p ∧ TupF S p (zs.map V.str)
theorem mTF (zs : List Str) : Mono (IsTF zs) := fun _ _ _ e h => by
  obtain ⟨p, h1, o, h2, h3⟩ := h
  exact ⟨p, h1, o, h2, e _ _ h3⟩
theorem gTupF {t : TA} {zs : List Str} (h : GDs t σ S (zs.map .str)) (hz : zs.length ≤ 100) : Gv (tTupF t) σ S (IsTF zs) := fun S1 H a b Q q => h S1 H a b _ fun xs S2 H2 g hx => by
  obtain rfl := hx.strs
  refine ⟨by rw [List.length_map]; exact Nat.le_trans hz (by decide), fun p o hp ho => q _ _ _ (g.trans (Gr.new g.sh hp)) ⟨p, rfl, o, ho, upd_same⟩⟩
theorem gIdx {zs : List Str} {z : Str} {j : Nat} (hr : Gv ta σ S (IsTF zs)) (ha : GD tb σ S (.str z)) (h1 : zs[j]? = some z) (h2 : ∀ m, m < j → zs[m]? ≠ some z) : GD (tBMF (rIdx K) ta (tCons tb tNil)) σ S (.int (j : Int)) := fun S1 H a b Q q =>
  hr S1 H a b _ fun x S2 H2 g hx => by
    obtain ⟨p, rfl, hT⟩ := hx
    obtain ⟨o, ho, e⟩ := id hT
    refine ⟨⟨p, _, rfl, o, ho, g.sh _ _ e⟩, ha S2 H2 (a.trans g.ss) g.sh _ fun y S3 H3 g3 hy => ?_⟩
    cases hy
    exact ⟨p, zs, z, j, rfl, rfl, TupF.sq ⟨o, ho, g3.same _ _ (g.sh _ _ e)⟩, h1, h2, q _ S3 H3 (g.trans g3) (.int _)⟩
theorem DDs.strs3 {H : Hp} : ∀ (zs : List Str), DDs H (zs.map V.str) (zs.map .str) := DDs.of_strs
/-- the lambda's name -/
def lamQ : Str := (envOfC "filling_order" (defScope s_filling_order) 0 0 .none).qual ++ "<lambda>"
/-- the promise of filling_order -/
def spFO (Pt : Addr) : Sp := fun vs H Q _ => ∃ (S : Hp) (n : Int), vs = [.int n] ∧ (0 ≤ n ∧ n ≤ 12) ∧ Same S H ∧ NoT S ∧ TabS H Pt lamQ ∧
  ∀ v S' H', Gw [] S H S' H' → TabS H' Pt lamQ → (∃ os, Order n os ∧ DD S' v (.list (os.map eKy))) → Q v H'
theorem tf1 : ∀ m, m < 1 → (["shut", "one", "two"] : List Str)[m]? ≠ some ("one" : Str) := fun m hm => by
  obtain rfl : m = 0 := by omega
  decide
theorem tf2 : ∀ m, m < 2 → (["shut", "one", "two"] : List Str)[m]? ≠ some ("two" : Str) := fun m hm => by
  have : m = 0 ∨ m = 1 := by omega
  rcases this with rfl | rfl <;> decide
theorem GD.run' {te : TE} {d : PyData} {H : Hp} (h : GD te σ S d) (sS : Same S H) {Q : VK} (q : ∀ v S' H', Gr [] S H S' H' → DD S' v d → Q v H') : te σ H Q := h.run sS q
theorem keysL_len {n : Int} (h : 0 ≤ n ∧ n ≤ 12) : (keysL n).length ≤ 1000 := by
  unfold keysL
  rw [List.length_append, List.length_map, irange_len, List.length_flatMap]
  have : ∀ x ∈ (irange 0 n).map (fun i => ((irange i n).flatMap fun j => ([(Kd.one, i, j), (Kd.two, i, j)] : List Ky) ++ (if i < j then [(Kd.shut, i, j)] else [])).length), x ≤ 36 := by
    intro x hx
    obtain ⟨i, hi, rfl⟩ := List.mem_map.mp hx
    have h1 := mem_irange.mp hi
    rw [List.length_flatMap]
    have h3 : ∀ y ∈ (irange i n).map (fun j => (([(Kd.one, i, j), (Kd.two, i, j)] : List Ky) ++ (if i < j then [(Kd.shut, i, j)] else [])).length), y ≤ 3 := by
      intro y hy
      obtain ⟨j, _, rfl⟩ := List.mem_map.mp hy
      split <;> simp
    have := sum_le_mul _ 3 h3
    rw [List.length_map, irange_len] at this
    omega
  have hs := sum_le_mul _ 36 this
  rw [List.length_map, irange_len] at hs
  omega
theorem ok_filling_order {f c Pt : Addr} {fd : FuncData} {k : Nat} (F : FunC K "filling_order" "filling_order" s_filling_order f fd c) (B : BI mg) (TB : TabB base mg c Pt) (c_row_keys : Ok P w K mg base "row_keys" ["many"] 1 (spP R_row_keys)) (hk : 3 ≤ k) : FnOk P w K mg base CX0 (k + 1) f fd ["many"] (spFO Pt) := by
  refine F.ok sc_filling_order (fun vs H Q E h => by obtain ⟨S, n, rfl, _⟩ := h; rfl) fun A outer s H vs Q E hr h => ?_
  obtain ⟨S, n, rfl, hn, sS, nt, hT, q⟩ := h
  refine ⟨_, (pss_cons (ps_setLc (i := 1) (own := [("key", 2)]) (g := (gName 2)) (by rfl) sc_filling_order.nd rfl rfl (sw_true rfl rfl rfl (by decide +kernel)) (pi_list (pe_ok c_row_keys (hr.mono (by omega)) (by rfl) (pa_cons (pv 0) pa_nil))) (blkOk_by (own := [("key", 2)]) (N := ["many", "inner", "key", "sorts", "at"]) (sc := defScope s_filling_order) (by decide +kernel)) (fun _ _ _ _ _ => (pg_name (i := 2) sc_filling_order.nd rfl (by first | exact .inl rfl | exact .inr rfl))) (fun _ _ _ _ _ => (pts_one (pt_cmpR (op_neD hr.units : OpR _ _ (rNeD K)) (pe_ix (ix_seq : IxR _ (rIx K)) (pv 2) pe_int (fun _ _ => rfl)) pe_str (nomark _)))) (fun _ _ _ _ _ => (pv 2)))
      (pss_cons (ps_set (i := 3) sc_filling_order.nd rfl (by first | exact .inl rfl | exact .inr rfl) (pe_tupF (pa_cons pe_str (pa_cons pe_str (pa_cons pe_str pa_nil)))))
      (pss_cons (ps_set (i := 1) sc_filling_order.nd rfl (by first | exact .inl rfl | exact .inr rfl) (pe_sortK (fr := ["sorts"]) (js := [3]) (N := ["key", "sorts"]) (prm := "key") (k := 0) (by rfl) B.sorted (pv 1) TB rfl rfl ⟨rfl, rfl, rfl, by decide +kernel, rfl, by decide +kernel, by decide +kernel, by decide +kernel, by decide +kernel⟩ (fun y hy e => by rcases List.mem_cons.mp hy with rfl | hy; (cases e); rcases List.mem_cons.mp hy with rfl | hy; (exact .inl rfl); (cases hy)) (by decide +kernel) rfl (fun _ _ _ _ _ _ => rfl) (hr.mono (by omega)) (fun F f A s H hF hr' => by obtain ⟨nm, ql, prs, dss, scp, cl, cc⟩ := F; subst hF; exact pe_tup (pa_cons (pe_un un_neg (pe_ix (ix_seq : IxR _ (rIx K)) (pv 0) pe_int (fun _ _ => rfl))) (pa_cons (pe_ix (ix_seq : IxR _ (rIx K)) (pv 0) pe_int (fun _ _ => rfl)) (pa_cons (pe_bmF PySem.F.slot_tuple_index PySem.F.type_tuple_index (mt_idx : MtR _ _ (rIdx K)) (pv 1) (pa_cons (pe_ix (ix_seq : IxR _ (rIx K)) (pv 0) pe_int (fun _ _ => rfl)) pa_nil)) pa_nil))))))
      (pss_one (ps_ret (pe_op (op_add4 : OpR _ _ (rAdd4 K)) (pv 1) (pe_lc (own := [("at", 4)]) (g := (gName 4)) (by rfl) sc_filling_order.nd (pi_range3 (by rfl) B.range (pa_cons (pv 0) (pa_cons (pe_un un_neg pe_int) (pa_cons (pe_un un_neg pe_int) pa_nil)))) (blkOk_by (own := [("at", 4)]) (N := ["many", "inner", "key", "sorts", "at"]) (sc := defScope s_filling_order) (by decide +kernel)) (fun _ _ _ _ _ => (pg_name (i := 4) sc_filling_order.nd rfl (by first | exact .inl rfl | exact .inr rfl))) (fun _ _ _ _ _ => pts_nil) (fun _ _ _ _ _ => (pe_tup (pa_cons pe_str (pa_cons (pv 4) (pa_cons (pe_op op_sub (pv 0) pe_int) pa_nil)))))))))))), ?_⟩
  refine sAsg (gLcE eKy inOpn eKy (fun ks => ks.Perm (keysL n)) (gCall (RP := R_row_keys) (R := fun S' v => ∃ ks : List Ky, ks.Perm (keysL n) ∧ DD S' v (.list (ks.map eKy))) ((ga1 (gV (.int n))).weak fun S2 vs a hv => ?_)) (fun l hl => ?_) fun l hl x hx u S1 e hu => turnN rfl ?_ fun _ => gV hu) sS fun iv S1 H1 g1 hi => ?_
  · obtain ⟨x, rfl, hx⟩ := hv
    cases hx
    exact ⟨n, rfl, hn, rfl⟩
  · have h1 := keysL_len hn
    rw [hl.length_eq]
    exact Nat.le_trans h1 (by decide)
  · refine gTest (GD.is (gNeD (gIxT (gV hu) gInt (atI_nat (j := 0) rfl)) gStr (sh_str (kdS_ok x.1)) (sh_str (kdS_ok .opn)) (b := decide (kdS x.1 = kdS .opn)) (by rw [PyData.eqv, Bool.eq_iff_iff]; simp; rfl)) ?_)
    unfold inOpn
    obtain ⟨kd, i, j⟩ := x
    cases kd <;> rfl
  obtain ⟨ks, hp, hi⟩ := hi
  refine sAsg (gTupF (zs := ["shut", "one", "two"]) (gaCons gStr (gaCons gStr (gaCons gStr gaNil))) (by decide)) g1.sh fun sv S2 H2 g2 hsv => ?_
  have hi2 := hi.mono g2.ss
  have nt2 := g2.nt (g1.nt nt)
  have hT2 := PF.TabS.gr (PF.TabS.gr hT g1) g2
  obtain ⟨A', xs, rfl, h1, h2⟩ := hi2.lstE
  have em := encVs_eq h2
  refine ⟨.ref A', rfl, A', xs, fun x => kfD (encV S2 x), rfl, SqL.of (g2.sh _ _ h1), hT2, fun x hx H3 e3 => ?_, fun Dd H3 e3 hf hT3 hD => ?_⟩
  · have s3 : Same S2 H3 := fun b o e => e3 b o (g2.sh b o e) fun ps z => nt2 b ps (by rw [e, z])
    obtain ⟨d, hd, hxd⟩ := h2.mem x hx
    obtain ⟨key, hk2, rfl⟩ := List.mem_map.mp hd
    have hno : key.1 ≠ .opn := of_decide_eq_true (List.mem_filter.mp hk2).2
    refine GD.run' (d := dat3 (keyI key)) (S := S2) (H := H3) ?_ s3 fun v S4 H4 g4 hv => ⟨g4.same, ?_⟩
    · obtain ⟨kd, i, j⟩ := key
      refine eTup (gaCons (gNeg (gIxT (gV hxd) gInt (atI_nat (j := 1) rfl))) (gaCons (gIxT (gV hxd) gInt (atI_nat (j := 2) rfl)) (gaCons ?_ gaNil)))
      cases kd with
      | opn => exact absurd rfl hno
      | shut => exact gIdx (j := 0) (gvI (mTF _) hsv) (gIxT (gV hxd) gInt (atI_nat (j := 0) rfl)) rfl (fun m hm => by omega)
      | one => exact gIdx (j := 1) (gvI (mTF _) hsv) (gIxT (gV hxd) gInt (atI_nat (j := 0) rfl)) rfl tf1
      | two => exact gIdx (j := 2) (gvI (mTF _) hsv) (gIxT (gV hxd) gInt (atI_nat (j := 0) rfl)) rfl tf2
    · show TupI3 H4 v (kfD (encV S2 x))
      rw [encV_eq hxd, kfD_key hno]
      obtain ⟨a, ys, rfl, e1, e2⟩ := hv.tupE
      obtain ⟨y1, r1, rfl, k1, e2⟩ := e2.consE
      obtain ⟨y2, r2, rfl, k2, e2⟩ := e2.consE
      obtain ⟨y3, r3, rfl, k3, e2⟩ := e2.consE
      cases e2; cases k1; cases k2; cases k3
      exact ⟨a, rfl, g4.sh _ _ e1⟩
  · generalize hz : xs.mergeSort (PySem.W.dataLe false fun x => dat3 (kfD (encV S2 x))) = zs at hD
    have hzp : zs.Perm xs := by rw [← hz]; exact List.mergeSort_perm _ _
    have hzs := sorted3 (fun x => kfD (encV S2 x)) xs
    rw [hz] at hzs
    have hze : (zs.map (encV S2)).Perm ((ks.filter inOpn).map eKy) := by rw [← em]; exact hzp.map _
    obtain ⟨ms, hmp, hme⟩ := perm_map_inv hze
    have hms : ms.Pairwise fun a b => ¬ lt3 (keyI b) (keyI a) := by
      have h5 : (zs.map (encV S2)).Pairwise fun p q => ¬ lt3 (kfD q) (kfD p) := by rw [List.pairwise_map]; exact hzs
      rw [hme, List.pairwise_map] at h5
      refine List.Pairwise.imp_of_mem (fun {a b} ha hb h => ?_) h5
      rw [kfD_key (of_decide_eq_true (List.mem_filter.mp (hmp.mem_iff.mp ha)).2), kfD_key (of_decide_eq_true (List.mem_filter.mp (hmp.mem_iff.mp hb)).2)] at h
      exact h
    have nD : S2 Dd = none := by
      cases e : S2 Dd with
      | none => rfl
      | some o => exact absurd (g2.sh _ _ e) (hf o fun ps z => nt2 _ ps (by rw [e, z]))
    have ddz : DDs S2 zs (ms.map eKy) := by
      rw [← hme]
      refine DDs.enc fun x hx => ?_
      obtain ⟨d, _, h⟩ := h2.mem x (hzp.mem_iff.mp hx)
      rw [encV_eq h]
      exact h
    have ga : Gw [] S2 H2 (upd S2 Dd (.lst zs)) H3 := by
      refine ⟨fun b o _ t e => e3 b o e t, fun b o t e => ⟨o, t, e3 b o e t.1⟩, same_upd' nD, fun b o e => ?_, fun b o t e m => ?_, fun z => z.upd fun ps z => nomatch z⟩
      · by_cases hb : b = Dd
        · subst hb; rw [upd_same] at e; cases e; exact hD
        · rw [upd_ne hb] at e
          exact e3 b o (g2.sh b o e) fun ps z => nt2 b ps (by rw [e, z])
      · rw [upd_ne (fun z => hf o t.1 (by rw [← z]; exact m))]; exact e
    have dl : DD (upd S2 Dd (.lst zs)) (.ref Dd) (.list (ms.map eKy)) := .lst upd_same (ddz.mono (same_upd' nD))
    have hml : ms.length ≤ 1000 := by
      have h6 := hmp.length_eq
      have h7 := List.length_filter_le inOpn ks
      have h8 := hp.length_eq
      have h9 := keysL_len hn
      omega
    refine sRet (gAddL (gV dl) (gLcD (fun x => eKy (.opn, x, n - 1)) (gaCons (gV (.int n)) (gaCons (gNeg gInt) (gaCons (gNeg gInt) gaNil))) (by omega) fun x h1 h2 S5 e5 => turnN rfl gYes fun _ => ?_) ?_) ga.sh fun v' S5 H5 g5 h5 => q v' S5 H5 ((g1.trans g2).w.trans (ga.trans g5.w)) (PF.TabS.gr hT3 g5) ⟨_, order_of hn.1 hp hmp hms, ?_⟩
    · exact eTup (gaCons gStr (gaCons (gV (.int x)) (gaCons (eSub (gV (.int n)) gInt) gaNil)))
    · simp only [List.length_map, drange, List.length_range]
      exact Nat.le_trans (show _ ≤ 2000 by omega) (by decide)
    · rw [List.map_append, List.map_map]
      have e1 : n - -1 = n + 1 := by omega
      rw [e1] at h5
      exact h5
end
end PF
-- part PfP10
set_option Elab.async false
set_option linter.all false
set_option maxRecDepth 100000
set_option maxHeartbeats 4000000
namespace PF
open PySem PySem.Spec PyProof.Rows L2 LamX NdefX
theorem sc_known_rows : FnScope ["rules", "string", "known", "key", "way"] ["rules", "string"] (defScope s_known_rows) := ⟨rfl, rfl, rfl, by decide +kernel, rfl, by decide +kernel, by decide +kernel⟩
structure DictIs (kvs : Kvs) (ds : List Ky) (K : Tb) : Prop where
  val : ∀ k ∈ ds, valV kvs (kyL k) = some (oV (K k))
  out : ∀ k, k ∉ ds → valV kvs (kyL k) = none
  ok : TabOk kvs
  len : kvs.length ≤ ds.length
  kout : ∀ k, k ∉ ds → K k = none
theorem DictIs.tab {kvs : Kvs} {ds : List Ky} {K : Tb} (h : DictIs kvs ds K) : tabV kvs = K := by
  funext k
  unfold tabV
  by_cases hk : k ∈ ds
  · rw [h.val k hk]
    cases K k <;> rfl
  · rw [h.out k hk, h.kout k hk]
theorem tabOk_put {kvs : Kvs} {k : List Key} {o : Option Int} (h : TabOk kvs) : TabOk (putK kvs k (oV o)) := by
  unfold putK
  intro p hp
  split at hp
  · obtain ⟨q, hq, rfl⟩ := List.mem_map.mp hp
    split
    · exact ⟨o, rfl⟩
    · exact h q hq
  · rcases List.mem_append.mp hp with hp | hp
    · exact h p hp
    · simp only [List.mem_singleton] at hp
      exact ⟨o, by rw [hp]⟩
theorem DictIs.nil : DictIs [] [] (fun _ => none) := ⟨by simp, fun _ _ => rfl, (fun p hp => by cases hp), Nat.le_refl _, fun _ _ => rfl⟩
theorem DictIs.put {kvs : Kvs} {ds : List Ky} {K : Tb} {a : Ky} {o : Option Int} (h : DictIs kvs ds K) (ha : a ∉ ds) : DictIs (putK kvs (kyL a) (oV o)) (ds ++ [a]) (setT K a o) := by
  refine ⟨fun k hk => ?_, fun k hk => ?_, tabOk_put h.ok, ?_, fun k hk => ?_⟩
  · rw [valV_put]
    unfold setT
    by_cases e : k = a
    · subst e; rw [if_pos rfl, if_pos rfl]
    · rw [if_neg (fun z => e (kyL_inj z)), if_neg e]
      rw [List.mem_append, List.mem_singleton] at hk
      exact h.val k (hk.resolve_right e)
  · rw [List.mem_append, List.mem_singleton, not_or] at hk
    rw [valV_put, if_neg (fun z => hk.2 (kyL_inj z))]
    exact h.out k hk.1
  · have := length_putK kvs (kyL a) (oV o)
    have := h.len
    rw [List.length_append, List.length_singleton]
    omega
  · rw [List.mem_append, List.mem_singleton, not_or] at hk
    unfold setT
    rw [if_neg hk.2]
    exact h.kout k hk.1
theorem tabBut {H H' : Hp} {Pt p : Addr} {q : Str} {w : HO} (t : TabS H Pt q) (e : H p = some w) (h1 : NT w) (h2 : ∀ c q, w ≠ CodeO c q) (k : ∀ b u, b ≠ p → H b = some u → H' b = some u) : TabS H' Pt q := by
  obtain ⟨ps, e1, e2, e3⟩ := t
  refine ⟨ps, k _ _ (fun z => ?_) e1, e2, fun pos cv hc => ?_⟩
  · rw [z, e] at e1
    exact h1 ps (Option.some.inj e1)
  · obtain ⟨c, hc1, hc2⟩ := e3 pos cv hc
    refine ⟨c, hc1, k _ _ (fun z => ?_) hc2⟩
    rw [z, e] at hc2
    exact h2 _ _ (Option.some.inj hc2)
/-- what was learned with a changing place told is let go -/
theorem Gr.forget {S Sx H S2 H2 : Hp} {p : Addr} {u : HO} (g : Gr [] Sx H S2 H2) (s : Same S H) (n : S p = none) (ho : ∀ xs, u ≠ .tup xs := by intro xs z; cases z) : Gr [p] S H S (upd H2 p u) := by
  refine ⟨fun b o nb e => ?_, fun b e => ?_, Same.refl _, fun b o e => ?_, fun b e _ => e, id⟩
  · rw [upd_ne (by simpa using nb)]
    exact g.same _ _ e
  · by_cases h : b = p
    · subst h; rw [upd_same]; exact ⟨by simp, fun xs z => ho xs (Option.some.inj z)⟩
    · rw [upd_ne h]; exact g.al b e
  · rw [upd_ne (ne_of_none e n)]
    exact g.same _ _ (s _ _ e)
theorem tellS {S H : Hp} {p : Addr} {o : HO} (s : Same S H) (e : H p = some o) : Same (upd S p o) H := fun b u h => by
  by_cases hb : b = p
  · subst hb; rw [upd_same] at h; cases h; exact e
  · rw [upd_ne hb] at h; exact s b u h
section
variable {P : Program} {w : World} {K : PySem.W.Frag} {mg : Str → Option Value} {base : Heap} {S S' H : Hp} {σ : L2.St} {ta tb te tl td ty tv : TE} {g : TG} {D : Ends}
theorem fForW {α : Type} {ts : TS} (enc : α → PyData) (Pre : Hp → Hp → List α → Prop) (src : ∀ Q : VK, (∀ v S1 H1 l, Pre S1 H1 l → Same S1 H1 → DD S1 v (.list (l.map enc)) → Q v H1) → tl σ H Q)
    (lp : ∀ S1 H1 l, Pre S1 H1 l → Same S1 H1 → ∃ (ex : List Addr) (I : Nat → L2.St → Hp → Hp → Prop), I 0 σ S1 H1 ∧
      (∀ i x v σ' S' H' (N : L2.St → Hp → Prop), l[i]? = some x → Gr ex S1 H1 S' H' → DD S' v (enc x) → I i σ' S' H' → (∀ σ3 S3 H3, Gr ex S' H' S3 H3 → I (i + 1) σ3 S3 H3 → N σ3 H3) →
        g v σ' H' fun σ2 H2 => ts { D with nx := N, ct := N, bk := D.nx } σ2 H2) ∧ ∀ σ' S' H', Gr ex S1 H1 S' H' → I l.length σ' S' H' → D.nx σ' H') : tFor (iList K tl) g ts D σ H :=
  src _ fun v S1 H1 l hP sS hv => by
    obtain ⟨A, xs, rfl, h1, h2⟩ := hv.lstE
    obtain ⟨ex, I, h0, hs, hd⟩ := lp S1 H1 l hP sS
    refine ⟨A, rfl, ⟨xs, SqL.of (sS _ _ h1)⟩, for_list (xs := xs) (LpI ex S1 H1 I S1) ⟨S1, Gr.refl sS, Same.refl _, h0⟩ (fun i σ' H' _ hp => ?_) (fun i x σ' H' hx hp => ?_) fun σ' H' hp => ?_⟩
    · obtain ⟨S', gr, s, _⟩ := hp
      exact SqL.of (gr.sh _ _ (s _ _ h1))
    · obtain ⟨S', gr, s, hI⟩ := hp
      obtain ⟨d, hd', hv⟩ := h2.get hx
      obtain ⟨z, hz', rfl⟩ := map_get hd'
      exact hs i z x σ' S' H' _ hz' gr (hv.mono s) hI fun σ3 S3 H3 g3 h3 => ⟨S3, gr.trans g3, s.trans g3.ss, h3⟩
    · obtain ⟨S', gr, s, hI⟩ := hp
      rw [h2.len, List.length_map] at hI
      exact hd σ' S' H' gr hI
/-- d[k] = v at a hidden dict of tuple keys; the dict is told while v is asked -/
theorem sPutT {o : Addr} {kvs : Kvs} {k : List Key} {R : Hp → V → Prop} (hv : ∀ S1, Same S S1 → IsDT kvs S1 (.ref o) → Gv tv σ S1 R) (hd : Gv td σ S fun _ v => v = .ref o) (hk : GD ty σ S (.tuple (k.map kD))) (sS : Same S H) (n : S o = none) (eo : H o = some (.dT kvs)) (hz : kvs.length < sizeLine)
    (q : ∀ v S2 H2, Gr [o] S H S (upd H2 o (.dT (putK kvs k v))) → R S2 v → D.nx σ (upd H2 o (.dT (putK kvs k v)))) : sDPut td ty tv D σ H := by
  have sx := tellS sS eo
  have su : Same S (upd S o (.dT kvs)) := same_upd' n
  refine (hv _ su ⟨o, rfl, upd_same⟩).run sx fun v S2 H2 g2 hr => ?_
  refine (hd.mono (su.trans g2.ss)).run g2.sh fun x S3 H3 g3 hx => ?_
  subst hx
  refine (hk.mono ((su.trans g2.ss).trans g3.ss)).run g3.sh fun y S4 H4 g4 hy => ?_
  obtain ⟨b, xs, rfl, h1, h2⟩ := hy.tupE
  obtain rfl := h2.keys
  have g24 := g2.trans (g3.trans g4)
  have e4 : H4 o = some (.dT kvs) := g24.same _ _ eo
  exact ⟨o, _, rfl, DPut.t e4 (g4.sh _ _ h1) hz, q v S2 H4 (g24.forget sS n) hr⟩
theorem sNewT {i : Nat} (q : ∀ o, H o = none → D.nx (σ.set i (some (.ref o))) (upd H o (.dT []))) : tAsg tDNewT (gName i) D σ H := q
def spKR (Pt : Addr) : Sp := fun vs H Q _ => ∃ (S : Hp) (v : V) (r : Rl) (z : Str), vs = [v, .str z] ∧ RulesAt S v r ∧ RlOk r ∧ ZOk z ∧ Same S H ∧ NoT S ∧ TabS H Pt lamQ ∧
  ∀ x S' H', Gw [] S H S' H' → TabS H' Pt lamQ → (∃ kvs Kt, DictIs kvs (keysL (z.length : Int)) Kt ∧ Fix (gOf r z) Kt ∧ IsDT kvs S' x) → Q x H'
theorem DictIs.perm {kvs : Kvs} {ds es : List Ky} {Kt : Tb} (h : DictIs kvs ds Kt) (p : ds.Perm es) : DictIs kvs es Kt :=
  ⟨fun k hk => h.val k (p.mem_iff.mpr hk), fun k hk => h.out k fun z => hk (p.mem_iff.mp z), h.ok, by rw [← p.length_eq]; exact h.len, fun k hk => h.kout k fun z => hk (p.mem_iff.mp z)⟩
theorem ways_len {g : G} {k : Ky} (h : IsKey g.n k) (hn : g.n ≤ 12) : (waysM g k).length ≤ 2000 ∧ ∀ w ∈ waysM g k, w.2.length ≤ 2 := by
  obtain ⟨kd, i, j⟩ := k
  cases kd with
  | shut =>
    have h : 0 ≤ i ∧ i < j ∧ j < g.n := h
    simp only [waysM, shutWays]
    split
    · refine ⟨?_, fun w hw => ?_⟩
      · have := withinWays_len (g := g) (i := i) (j := j) (by omega)
        simp only [List.length_map, List.length_append, List.length_cons, List.length_nil]
        omega
      · rw [List.mem_map] at hw
        obtain ⟨w0, hw0, rfl⟩ := hw
        rw [List.mem_append, List.mem_cons, List.mem_singleton] at hw0
        rcases hw0 with (rfl | h) | rfl
        · exact Nat.zero_le _
        · unfold withinWays at h
          rw [List.mem_flatMap] at h
          obtain ⟨p, hp, h⟩ := h
          rw [List.mem_map] at h
          obtain ⟨q, hq, rfl⟩ := h
          exact (by decide : 1 ≤ 2)
        · exact (by decide : 1 ≤ 2)
    · exact ⟨Nat.zero_le _, fun w hw => by cases hw⟩
  | one =>
    have h : 0 ≤ i ∧ i ≤ j ∧ j < g.n := h
    simp only [waysM, oneWays]
    refine ⟨?_, fun w hw => ?_⟩
    · rw [List.length_cons, List.length_flatMap]
      have := sum_le_mul ((irange (i + 1) (j + 1)).map fun k => ([(g.L 4 + (j - k) * g.L 5, [(Kd.shut, i, k)]), (g.L 4, [(.shut, i, k), (.one, k + 1, j)])] : List Way).length) 2 (fun x hx => by
        obtain ⟨y, _, rfl⟩ := List.mem_map.mp hx
        exact Nat.le_refl _)
      rw [List.length_map, irange_len] at this
      omega
    · rw [List.mem_cons, List.mem_flatMap] at hw
      rcases hw with rfl | ⟨k, _, hw⟩
      · exact (by decide : 1 ≤ 2)
      · rw [List.mem_cons, List.mem_singleton] at hw
        rcases hw with rfl | rfl
        · exact (by decide : 1 ≤ 2)
        · exact (by decide : 2 ≤ 2)
  | two =>
    have h : 0 ≤ i ∧ i ≤ j ∧ j < g.n := h
    simp only [waysM, twoWays]
    refine ⟨?_, fun w hw => ?_⟩
    · rw [List.length_cons, List.length_map, irange_len]
      omega
    · rw [List.mem_cons, List.mem_map] at hw
      rcases hw with rfl | ⟨k, _, rfl⟩
      · exact (by decide : 1 ≤ 2)
      · exact (by decide : 2 ≤ 2)
  | opn =>
    have h : 0 ≤ i ∧ i ≤ g.n ∧ j = g.n - 1 := h
    simp only [waysM, openWays]
    split
    · exact ⟨(by decide : 1 ≤ 2000), fun w hw => by rw [List.mem_singleton] at hw; subst hw; exact Nat.zero_le _⟩
    · refine ⟨?_, fun w hw => ?_⟩
      · rw [List.length_cons, List.length_map, irange_len]
        omega
      · rw [List.mem_cons, List.mem_map] at hw
        rcases hw with rfl | ⟨k, _, rfl⟩
        · exact (by decide : 1 ≤ 2)
        · exact (by decide : 2 ≤ 2)
theorem ok_known_rows {f Pt : Addr} {fd : FuncData} {k : Nat} (F : Fun K "known_rows" "known_rows" s_known_rows f fd) (B : BI mg) (c_filling_order : Ok P w K mg base "filling_order" ["many"] 4 (spFO Pt)) (c_least_of : Ok P w K mg base "least_of" ["worths"] 1 (spP R_least_of))
    (c_come_to : Ok P w K mg base "come_to" ["way", "known"] 1 (spP R_come_to)) (c_ways_of : Ok P w K mg base "ways_of" ["rules", "string", "key"] 4 (spP R_ways_of)) (hk : 4 ≤ k) : FnOk P w K mg base CX0 (k + 1) f fd ["rules", "string"] (spKR Pt) := by
  refine F.ok sc_known_rows (fun vs H Q E h => by obtain ⟨S, v, r, z, rfl, _⟩ := h; rfl) fun cdv A outer s H vs Q E hr h => ?_
  obtain ⟨S, v, r, z, rfl, hR, ok, zk, sS, nt, hT, q⟩ := h
  refine ⟨_, (pss_cons (ps_set (i := 2) sc_known_rows.nd rfl (by first | exact .inl rfl | exact .inr rfl) pe_dnewT)
      (pss_cons (ps_for PassesOwn.never rfl (pi_list (pe_ok c_filling_order (hr.mono (by omega)) (by rfl) (pa_cons (pe_callB (call_lenA : CallR _ _ (rLenA K)) (by rfl) B.len (by decide +kernel) (pa_cons (pv 1) pa_nil)) pa_nil))) (pg_name (i := 3) sc_known_rows.nd rfl (by first | exact .inl rfl | exact .inr rfl)) (pss_one (ps_dput (hu_of hr) (pv 2) (pv 3) (pe_ok c_least_of (hr.mono (by omega)) (by rfl) (pa_cons (pe_lc (own := [("way", 4)]) (g := (gName 4)) (by rfl) sc_known_rows.nd (pi_list (pe_ok c_ways_of (hr.mono (by omega)) (by rfl) (pa_cons (pv 0) (pa_cons (pv 1) (pa_cons (pv 3) pa_nil))))) (blkOk_by (own := [("way", 4)]) (N := ["rules", "string", "known", "key", "way"]) (sc := defScope s_known_rows) (by decide +kernel)) (fun _ _ _ _ _ => (pg_name (i := 4) sc_known_rows.nd rfl (by first | exact .inl rfl | exact .inr rfl))) (fun _ _ _ _ _ => pts_nil) (fun _ _ _ _ _ => (pe_ok c_come_to (hr.mono (by omega)) (by rfl) (pa_cons (pv 4) (pa_cons (pv 2) pa_nil))))) pa_nil)) rfl)))
      (pss_one (ps_ret (pv 2))))), ?_⟩
  have hn : (z.length : Int) ≤ 12 := by have := zk.le; omega
  refine sNewT fun o no => ?_
  have g0 : Gr [] S H S (upd H o (.dT [])) := Gr.priv sS no
  have hT0 := PF.TabS.gr hT g0
  have nS : S o = none := sS.free no
  show tFor (iList K (tCall (spFO Pt) [] E0 (tCons (tCB (rLenA K) (tCons (tVar 1) tNil)) tNil))) (gName 3) _ _ _ _
  refine fForW eKy (fun S1 H1 os => Order (z.length : Int) os ∧ Gw [] S (upd H o (.dT [])) S1 H1 ∧ TabS H1 Pt lamQ) (fun Q' q' => ?_) fun S1 H1 os hP sS1 => ?_
  · refine Gv.run (S := S) (R := fun S' x => DD S' x (.int (z.length : Int))) (te := tCB (rLenA K) (tCons (tVar 1) tNil)) (Q := fun x H1 => spFO Pt [x] H1 Q' E0) (σ := [some v, some (.str z), some (.ref o), none, none]) (gLenS (gV (.str z)) (Nat.le_trans zk.le (by decide))) g0.sh fun x S1 H1 g1 hx => ?_
    cases hx
    exact ⟨S1, _, rfl, by omega, g1.sh, g1.nt nt, PF.TabS.gr hT0 g1, fun v' S' H' gw hT' hos => by
      obtain ⟨os, ho, hd⟩ := hos
      exact q' v' S' H' os ⟨ho, g1.w.trans gw, hT'⟩ gw.sh hd⟩
  · obtain ⟨ho, gw, hT1⟩ := hP
    have n1 : S1 o = none := gw.hid o _ ⟨fun ps z => (by cases z), fun ps z => (by cases z)⟩ nS upd_same
    have e1 : H1 o = some (.dT []) := gw.hh o _ (by simp) (fun ps z => by cases z) upd_same
    have hR1 := hR.mono gw.ss
    have nd : os.Nodup := ho.perm.nodup_iff.mpr (keysL_nodup _)
    refine ⟨[o], fun i σ' S' H' => ∃ e3 e4 kvs Kt, σ' = [some v, some (.str z), some (.ref o), e3, e4] ∧ S' o = none ∧ H' o = some (.dT kvs) ∧ TabS H' Pt lamQ ∧ DictIs kvs (os.take i) Kt ∧ Prog (gOf r z) Kt (os.take i), ⟨none, none, [], fun _ => none, rfl, n1, e1, hT1, DictIs.nil, Prog.nil⟩, fun i key u σ' S' H' N hx g hu hI hN => ?_, fun σ' S' H' g hI => ?_⟩
    · obtain ⟨e3, e4, kvs, Kt, rfl, n', eo, hT', hD, hPr⟩ := hI
      have hin : key ∈ keysL (z.length : Int) := ho.perm.mem_iff.mp (List.mem_of_getElem? hx)
      have hik := mem_keysL.mp hin
      obtain ⟨wl1, wl2⟩ := ways_len (g := gOf r z) (k := key) hik hn
      have hl := hD.len
      have hlen : (os.take i).length ≤ 1000 := by
        rw [List.length_take]
        have := keysL_len (n := (z.length : Int)) (by omega)
        have := ho.perm.length_eq
        omega
      have hnot : key ∉ os.take i := fun z => by
        obtain ⟨m, hm, e⟩ := List.mem_iff_getElem.mp z
        rw [List.length_take] at hm
        have h1 : os[m]? = some key := by
          rw [List.getElem_take] at e
          rw [List.getElem?_eq_getElem (by omega), e]
        have := nd_ix nd h1 hx
        omega
      refine sPutT (R := fun S' x => ∃ w, IsLeast ((waysM (gOf r z) key).map (come (tabV kvs))) w ∧ DD S' x (oD w)) (k := kyL key) (fun S3 s3 hd3 => ?_) (gvI (mV _) rfl) (gV hu) g.sh n' eo (Nat.lt_of_le_of_lt (Nat.le_trans hl hlen) (by decide)) fun wv S2 H2 g2 hw => ?_
      · refine gCall (RP := R_least_of) (R := fun S' x => ∃ w, IsLeast ((waysM (gOf r z) key).map (come (tabV kvs))) w ∧ DD S' x (oD w)) ((ga1 (gLc1 (waysM (gOf r z) key) eWay (fun w => oD (come (tabV kvs) w)) (gCall (RP := R_ways_of) (R := fun S' x => DD S' x (.list ((waysM (gOf r z) key).map eWay)))
          ((gA3 (mR r) (mD (.str z)) (gRul ((hR1.mono g.ss).mono s3)) (gV (.str z)) (gV (hu.mono s3))).weak fun S4 vs a hv => ?_)) (Nat.le_trans wl1 (by decide)) fun wy hwy uy S4 e hwu => turnN rfl gYes fun _ => ?_)).weak fun S4 vs a hv => ?_)
        · obtain ⟨x1, x2, x3, rfl, hx1, hx2, hx3⟩ := hv
          cases hx2
          exact ⟨x1, x3, r, z, key, rfl, hx1, ok, zk, hx3, hik, rfl⟩
        · refine gCall (RP := R_come_to) (R := fun S' x => DD S' x (oD (come (tabV kvs) wy))) ((gA2 (mD _) (gV hwu) (gvI (mDT kvs) ((mDT kvs) _ _ _ e hd3))).weak fun S5 vs a hv => ?_)
          obtain ⟨x1, x2, rfl, hx1, hx2⟩ := hv
          exact ⟨x1, x2, wy, kvs, rfl, hx1, Nat.le_trans (wl2 wy hwy) (by decide), hx2, hD.ok, rfl⟩
        · obtain ⟨x, rfl, hx⟩ := hv
          refine ⟨x, (waysM (gOf r z) key).map (come (tabV kvs)), rfl, ?_, by rw [List.length_map]; omega, rfl⟩
          rw [List.map_map]
          exact hx
      · obtain ⟨w', hw1, hw2⟩ := hw
        obtain rfl := oD_V hw2
        rw [hD.tab] at hw1
        refine hN _ S' _ g2 ⟨_, _, _, setT Kt key w', rfl, n', upd_same, ?_, ?_, ?_⟩
        · exact tabBut hT' eo (fun ps z => nomatch z) (fun c q z => nomatch z) fun b u hb e => g2.hh b u (by simpa using hb) e
        · rw [List.take_add_one, hx]
          exact hD.put hnot
        · rw [List.take_add_one, hx]
          refine hPr.step hnot (fun k2 hk2 wy hwy hin2 => ?_) hw1
          have hm := dep_mlt hwy hin2
          obtain ⟨m, hm2, e⟩ := List.mem_iff_getElem.mp hk2
          rw [List.length_take] at hm2
          rw [List.getElem_take] at e
          have h3 := List.pairwise_iff_getElem.mp ho.srt m i (by omega) (List.getElem?_eq_some_iff.mp hx).1 (by omega)
          rw [e, (List.getElem?_eq_some_iff.mp hx).2] at h3
          exact h3 hm
    · obtain ⟨e3, e4, kvs, Kt, rfl, n', eo, hT', hD, hPr⟩ := hI
      rw [List.take_length] at hD hPr
      refine ⟨_, rfl, q (.ref o) (upd S' o (.dT kvs)) H' (Gw.tell (Gw.over1 (g0.w.trans gw) g no) (fun u _ e => by rw [no] at e; cases e) n' eo) hT' ⟨kvs, Kt, hD.perm ho.perm, hPr.fix ho.perm, o, rfl, upd_same⟩⟩
end
end PF
-- part PfP11
set_option Elab.async false
set_option linter.all false
set_option maxRecDepth 100000
set_option maxHeartbeats 4000000
namespace PF
open PySem PySem.Spec PyProof.Rows L2 LamX NdefX
theorem sc_table_of : FnScope ["rules", "string", "known", "key"] ["rules", "string"] (defScope s_table_of) := ⟨rfl, rfl, rfl, by decide +kernel, rfl, by decide +kernel, by decide +kernel⟩
section
variable {P : Program} {w : World} {K : PySem.W.Frag} {mg : Str → Option Value} {base : Heap} {S S' H : Hp} {σ : L2.St} {ta tb te tl td ty tv : TE} {g : TG} {D : Ends}
/-- x = f(..), f a def of any promise -/
theorem sAsgC {sp : Sp} {t : TA} {E : XK} {RA : Hp → List V → Prop} {i : Nat} (h : GA t σ S RA) (sS : Same S H) (q : ∀ vs S1 H1, Gr [] S H S1 H1 → RA S1 vs → sp vs H1 (fun v H2 => D.nx (σ.set i (some v)) H2) E) : tAsg (tCall sp [] E t) (gName i) D σ H :=
  h S H (Same.refl _) sS _ fun vs S1 H1 g hv => by
    show sp (vs ++ []) H1 _ E
    rw [List.append_nil]
    exact q vs S1 H1 g hv
def rowsD (ks : List Ky) (T : Tb) : PyData := .list (ks.map fun k => eRow k (T k))
def spTO (Pt : Addr) : Sp := fun vs H Q _ => ∃ (S : Hp) (v : V) (r : Rl) (z : Str), vs = [v, .str z] ∧ RulesAt S v r ∧ RlOk r ∧ ZOk z ∧ (∀ c ∈ z.cps.toList, c ∈ r.letters.cps.toList) ∧ Same S H ∧ NoT S ∧ TabS H Pt lamQ ∧
  ∀ x S' H', Gw [] S H S' H' → TabS H' Pt lamQ → (∃ ks Kt, ks.Perm (keysL (z.length : Int)) ∧ Fix (gOf r z) Kt ∧ DD S' x (rowsD ks Kt)) → Q x H'
theorem ok_table_of {f Pt : Addr} {fd : FuncData} {k : Nat} (F : Fun K "table_of" "table_of" s_table_of f fd) (B : BI mg) (c_known_rows : Ok P w K mg base "known_rows" ["rules", "string"] 5 (spKR Pt)) (c_need_string : Ok P w K mg base "need_string" ["rules", "thing"] 2 (spP R_need_string))
    (c_row_keys : Ok P w K mg base "row_keys" ["many"] 1 (spP R_row_keys)) (hk : 5 ≤ k) : FnOk P w K mg base CX0 (k + 1) f fd ["rules", "string"] (spTO Pt) := by
  refine F.ok sc_table_of (fun vs H Q E h => by obtain ⟨S, v, r, z, rfl, _⟩ := h; rfl) fun cdv A outer s H vs Q E hr h => ?_
  obtain ⟨S, v, r, z, rfl, hR, ok, zk, hc, sS, nt, hT, q⟩ := h
  refine ⟨_, (pss_cons (ps_expr (pe_ok c_need_string (hr.mono (by omega)) (by rfl) (pa_cons (pv 0) (pa_cons (pv 1) pa_nil))))
      (pss_cons (ps_set (i := 2) sc_table_of.nd rfl (by first | exact .inl rfl | exact .inr rfl) (pe_ok c_known_rows (hr.mono (by omega)) (by rfl) (pa_cons (pv 0) (pa_cons (pv 1) pa_nil))))
      (pss_one (ps_ret (pe_lc (own := [("key", 3)]) (g := (gName 3)) (by rfl) sc_table_of.nd (pi_list (pe_ok c_row_keys (hr.mono (by omega)) (by rfl) (pa_cons (pe_callB (call_lenA : CallR _ _ (rLenA K)) (by rfl) B.len (by decide +kernel) (pa_cons (pv 1) pa_nil)) pa_nil))) (blkOk_by (own := [("key", 3)]) (N := ["rules", "string", "known", "key"]) (sc := defScope s_table_of) (by decide +kernel)) (fun _ _ _ _ _ => (pg_name (i := 3) sc_table_of.nd rfl (by first | exact .inl rfl | exact .inr rfl))) (fun _ _ _ _ _ => pts_nil) (fun _ _ _ _ _ => (pe_op (op_add4 : OpR _ _ (rAdd4 K)) (pv 3) (pe_tup (pa_cons (pe_dget (hu_of hr) (pv 2) (pv 3) (fun _ _ => rfl)) pa_nil))))))))), ?_⟩
  have hn : (z.length : Int) ≤ 12 := by have := zk.le; omega
  refine sDrop (gCall (RP := R_need_string) (R := fun S' x => x = .non) ((gA2 (mR r) (gRul hR) (gV (.str z))).weak fun S2 vs a hv => ?_)) sS fun _ S1 H1 g1 _ => ?_
  · obtain ⟨x, y, rfl, hx, hy⟩ := hv
    cases hy
    exact ⟨x, r, z, rfl, hx, zk.le, hc, rfl⟩
  refine sAsgC (gA2 (mR r) (gRul (hR.mono g1.ss)) (gV (.str z))) g1.sh fun vs S2 H2 g2 hv => ?_
  obtain ⟨x, y, rfl, hx, hy⟩ := hv
  cases hy
  refine ⟨S2, x, r, z, rfl, hx, ok, zk, g2.sh, g2.nt (g1.nt nt), PF.TabS.gr (PF.TabS.gr hT g1) g2, fun u S3 H3 gw hT3 hK => ?_⟩
  obtain ⟨kvs, Kt, hD, hF, hdt⟩ := hK
  refine sRet (gLcE eKy (fun _ => true) (fun key => eRow key (Kt key)) (fun ks => ks.Perm (keysL (z.length : Int))) (gCall (RP := R_row_keys) (R := fun S' v => ∃ ks : List Ky, ks.Perm (keysL (z.length : Int)) ∧ DD S' v (.list (ks.map eKy))) ((ga1 (gLenS (gV (.str z)) (Nat.le_trans zk.le (by decide)))).weak fun S2 vs a hv => ?_)) (fun l hl => ?_)
    fun l hl key hkey u4 S4 e hu => turnN rfl gYes fun _ => ?_) gw.sh fun v5 S5 H5 g5 h5 => ?_
  · obtain ⟨x, rfl, hx⟩ := hv
    cases hx
    exact ⟨_, rfl, by omega, rfl⟩
  · have h1 := keysL_len (n := (z.length : Int)) (by omega)
    rw [hl.length_eq]
    exact Nat.le_trans h1 (by decide)
  · exact gAddT (ds := [.str (kdS key.1), .int key.2.1, .int key.2.2]) (es := [oD (Kt key)]) (gV hu) (eTup (gaCons (gAtT (k := kyL key) (gvI (mDT kvs) (mDT kvs _ _ _ e hdt)) (gV hu) (hD.val key (hl.mem_iff.mp hkey)) fun _ _ => DD_oD _) gaNil)) (by show 3 + 1 ≤ sizeLine; decide)
  · obtain ⟨ks, hp, hd5⟩ := h5
    rw [filter_tt] at hd5
    exact q v5 S5 H5 ((g1.trans g2).w.trans (gw.trans g5.w)) (PF.TabS.gr hT3 g5) ⟨ks, Kt, hp, hF, hd5⟩
end
end PF
-- part PfMath3
namespace PF
def listF (g : G) : Nat → Int → Int → List (List Pr)
  | 0, _, _ => [[]]
  | m + 1, i, j => if i ≥ j then [[]] else listF g m (i + 1) j ++ (irange (i + 1) (j + 1)).flatMap fun k =>
      if g.fits i k = true then (listF g m (i + 1) (k - 1)).flatMap fun one => (listF g m (k + 1) j).map fun other => (i, k) :: (one ++ other) else []
theorem mem_listF {g : G} : ∀ (m : Nat) (i j : Int) (f : List Pr), (j - i).toNat ≤ m → (f ∈ listF g m i j ↔ Fold g i j f)
  | 0, i, j, f, h => by
    unfold listF
    rw [List.mem_singleton]
    constructor
    · rintro rfl
      exact .nil (by omega)
    · intro t
      cases t with
      | nil h => rfl
      | skip h t => omega
      | pair h hk hf ta tb => omega
  | m + 1, i, j, f, h => by
    unfold listF
    by_cases hij : i ≥ j
    · rw [if_pos hij, List.mem_singleton]
      constructor
      · rintro rfl
        exact .nil (by omega)
      · intro t
        cases t with
        | nil h => rfl
        | skip h t => omega
        | pair h hk hf ta tb => omega
    · rw [if_neg hij, List.mem_append, List.mem_flatMap]
      constructor
      · rintro (h1 | ⟨k, hk, h1⟩)
        · exact .skip (by omega) ((mem_listF m _ _ _ (by omega)).mp h1)
        · have hk := mem_irange.mp hk
          by_cases hf : g.fits i k = true
          · rw [if_pos hf, List.mem_flatMap] at h1
            obtain ⟨one, h2, h3⟩ := h1
            rw [List.mem_map] at h3
            obtain ⟨other, h4, rfl⟩ := h3
            exact .pair (by omega) (by omega) hf ((mem_listF m _ _ _ (by omega)).mp h2) ((mem_listF m _ _ _ (by omega)).mp h4)
          · rw [if_neg hf] at h1
            cases h1
      · intro t
        cases t with
        | nil h => omega
        | skip h t => exact .inl ((mem_listF m _ _ _ (by omega)).mpr t)
        | @pair _ _ k a b h hk hf ta tb =>
          refine .inr ⟨k, mem_irange.mpr ⟨by omega, by omega⟩, ?_⟩
          rw [if_pos hf, List.mem_flatMap]
          exact ⟨a, (mem_listF m _ _ _ (by omega)).mpr ta, List.mem_map.mpr ⟨b, (mem_listF m _ _ _ (by omega)).mpr tb, rfl⟩⟩
theorem Fold.len {g : G} {i j : Int} {f : List Pr} (t : Fold g i j f) : f.length ≤ (j - i).toNat := by
  induction t with
  | nil h => exact Nat.zero_le _
  | skip h t ih => omega
  | pair h hk hf ta tb iha ihb =>
    rw [List.length_cons, List.length_append]
    omega
def NB : Nat → Nat
  | 0 => 1
  | 1 => 2
  | d + 2 => NB (d + 1) + (d + 2) * (NB d * NB d)
theorem NB_mono1 (d : Nat) : NB d ≤ NB (d + 1) := by
  cases d with
  | zero => decide
  | succ d =>
    have : NB (d + 1 + 1) = NB (d + 1) + (d + 2) * (NB d * NB d) := rfl
    omega
theorem NB_mono {a b : Nat} (h : a ≤ b) : NB a ≤ NB b := by
  induction h with
  | refl => exact Nat.le_refl _
  | step h ih => exact Nat.le_trans ih (NB_mono1 _)
theorem NB_pos (d : Nat) : 1 ≤ NB d := Nat.le_trans (by decide : 1 ≤ NB 0) (NB_mono (Nat.zero_le d))
theorem sum_le : ∀ (l : List Nat) (c : Nat), (∀ x ∈ l, x ≤ c) → l.sum ≤ l.length * c
  | [], _, _ => by simp
  | a :: l, c, h => by
    have h1 := h a List.mem_cons_self
    have h2 := sum_le l c fun x hx => h x (List.mem_cons_of_mem _ hx)
    rw [List.sum_cons, List.length_cons, Nat.add_mul]
    omega
theorem flat_len {α β : Type} {f : α → List β} {l : List α} {c : Nat} (h : ∀ x ∈ l, (f x).length ≤ c) : (l.flatMap f).length ≤ l.length * c := by
  rw [List.length_flatMap]
  have := sum_le (l.map fun x => (f x).length) c (fun y hy => by
    obtain ⟨x, hx, rfl⟩ := List.mem_map.mp hy
    exact h x hx)
  rw [List.length_map] at this
  exact this
theorem irange_len' {a b : Int} : (irange a b).length = (b - a).toNat := by
  unfold irange
  rw [List.length_map, List.length_range]
theorem listF_len {g : G} : ∀ (m : Nat) (i j : Int) (d : Nat), (j - i).toNat ≤ m → (j - i).toNat ≤ d → (listF g m i j).length ≤ NB d
  | 0, i, j, d, _, _ => NB_pos d
  | m + 1, i, j, d, h, hd => by
    unfold listF
    by_cases hij : i ≥ j
    · rw [if_pos hij]
      exact NB_pos d
    · rw [if_neg hij, List.length_append]
      refine Nat.le_trans ?_ (NB_mono hd)
      have h1 := listF_len (g := g) m (i + 1) j (j - (i + 1)).toNat (by omega) (Nat.le_refl _)
      have h2 : ((irange (i + 1) (j + 1)).flatMap fun k => if g.fits i k = true then (listF g m (i + 1) (k - 1)).flatMap fun one => (listF g m (k + 1) j).map fun other => (i, k) :: (one ++ other) else []).length ≤ (irange (i + 1) (j + 1)).length * (NB ((j - i).toNat - 2) * NB ((j - i).toNat - 2)) := by
        refine flat_len fun k hk => ?_
        have hk := mem_irange.mp hk
        split
        · have a1 := listF_len (g := g) m (i + 1) (k - 1) ((j - i).toNat - 2) (by omega) (by omega)
          have a2 := listF_len (g := g) m (k + 1) j ((j - i).toNat - 2) (by omega) (by omega)
          refine Nat.le_trans (flat_len (c := NB ((j - i).toNat - 2)) fun x hx => ?_) (Nat.mul_le_mul_right _ a1)
          rw [List.length_map]
          exact a2
        · exact Nat.zero_le _
      rw [irange_len'] at h2
      obtain ⟨e, he⟩ : ∃ e, (j - i).toNat = e + 1 := ⟨(j - i).toNat - 1, by omega⟩
      rw [he] at h2 ⊢
      have e1 : (j - (i + 1)).toNat = e := by omega
      have e2 : (j + 1 - (i + 1)).toNat = e + 1 := by omega
      rw [e1] at h1
      rw [e2] at h2
      cases e with
      | zero =>
        have : NB (0 + 1 - 2) = 1 := rfl
        rw [this] at h2
        have : NB 0 = 1 := rfl
        have : NB (0 + 1) = 2 := rfl
        omega
      | succ e =>
        have : e + 1 + 1 - 2 = e := by omega
        rw [this] at h2
        have : NB (e + 1 + 1) = NB (e + 1) + (e + 1 + 1) * (NB e * NB e) := rfl
        omega
theorem NB6 : NB 6 = 39760 := rfl
/-- straight, item by item -/
def endS : List Pr → Int → Int → Int
  | [], e, _ => e
  | (i, j) :: r, e, h => if i > e ∧ j < h then endS r j h else endS r e h
theorem straight_snoc : ∀ (f : List Pr) (i j e h : Int), straight (f ++ [(i, j)]) e h = straight f e h ++ (if i > endS f e h ∧ j < h then [(i, j)] else [])
  | [], i, j, e, h => by
    by_cases hh : i > e ∧ j < h <;> simp [straight, endS, hh]
  | (a, b) :: r, i, j, e, h => by
    rw [List.cons_append]
    simp only [straight, endS]
    split
    · rw [straight_snoc r i j b h, List.cons_append]
    · exact straight_snoc r i j e h
theorem endS_snoc : ∀ (f : List Pr) (i j e h : Int), endS (f ++ [(i, j)]) e h = if i > endS f e h ∧ j < h then j else endS f e h
  | [], i, j, e, h => by
    by_cases hh : i > e ∧ j < h <;> simp [endS, hh]
  | (a, b) :: r, i, j, e, h => by
    rw [List.cons_append]
    simp only [endS]
    split
    · exact endS_snoc r i j b h
    · exact endS_snoc r i j e h
theorem straight_len : ∀ (f : List Pr) (e h : Int), (straight f e h).length ≤ f.length
  | [], _, _ => Nat.le_refl _
  | (i, j) :: r, e, h => by
    simp only [straight]
    split
    · rw [List.length_cons, List.length_cons]
      have := straight_len r j h
      omega
    · rw [List.length_cons]
      have := straight_len r e h
      omega
theorem straight_sub : ∀ (f : List Pr) (e h : Int), ∀ p ∈ straight f e h, p ∈ f
  | [], _, _, p, hp => by cases hp
  | (i, j) :: r, e, h, p, hp => by
    simp only [straight] at hp
    split at hp
    · rcases List.mem_cons.mp hp with rfl | hp
      · exact List.mem_cons_self
      · exact List.mem_cons_of_mem _ (straight_sub r j h p hp)
    · exact List.mem_cons_of_mem _ (straight_sub r e h p hp)
theorem widths_sum : ∀ f : List Pr, widths f = (f.map fun p => p.2 - p.1 + 1).sum
  | [] => rfl
  | (p, q) :: r => by
    rw [widths, widths_sum r]
    rfl
end PF
-- part PfL1
set_option Elab.async false
set_option linter.all false
set_option maxRecDepth 100000
set_option maxHeartbeats 4000000
namespace PF
open PySem PySem.Spec PyProof.Rows L2
theorem sc_law_fits : FnScope ["_law_given", "_law_writ_here", "_law_i", "_law_j"] ["_law_given", "_law_writ_here", "_law_i", "_law_j"] (defScope s_law_fits) := ⟨rfl, rfl, rfl, by decide +kernel, rfl, by decide +kernel, by decide +kernel⟩
theorem sc_law_listed : FnScope ["_law_given", "_law_writ_here", "_law_i", "_law_j", "_law_found", "_law_k", "_law_behind", "_law_one", "_law_other"] ["_law_given", "_law_writ_here", "_law_i", "_law_j"] (defScope s_law_listed) := ⟨rfl, rfl, rfl, by decide +kernel, rfl, by decide +kernel, by decide +kernel⟩
def eFo (f : List Pr) : PyData := .list (f.map ePr)
section
variable {P : Program} {w : World} {K : PySem.W.Frag} {mg : Str → Option Value} {base : Heap} {S : Hp} {σ : L2.St} {ta tb : TE}
def R_fits : Hp → List V → (Hp → V → Prop) → Prop := fun S vs Post => ∃ (v : V) (r : Rl) (z : Str) (i j : Int), vs = [v, .str z, .int i, .int j] ∧ RulesAt S v r ∧ z.length ≤ 12 ∧ (0 ≤ i ∧ i < (z.length : Int)) ∧ (0 ≤ j ∧ j < (z.length : Int)) ∧ Post = fun S' x => DD S' x (.bool ((gOf r z).fits i j))
theorem ok_law_fits {f : Addr} {fd : FuncData} {k : Nat} (F : Fun K "_law_fits" "_law_fits" s_law_fits f fd) (B : BI mg) : FnOk P w K mg base CX0 (k + 1) f fd ["_law_given", "_law_writ_here", "_law_i", "_law_j"] (spP R_fits) := by
  refine okP F sc_law_fits (fun S vs Post h => by obtain ⟨v, r, z, i, j, rfl, _⟩ := h; rfl) fun cdv A outer s H S vs Post Q E hr sS h q => ?_
  obtain ⟨v, r, z, i, j, rfl, hR, hz, h1, h2, rfl⟩ := h
  refine ⟨_, (pss_one (ps_ret (pe_and (pe_cmpR op_gt (pe_op op_sub (pv 3) (pv 2)) (pe_ix (ix_seq : IxR _ (rIx K)) (pv 0) pe_int (fun _ _ => rfl)) (nomark _)) (pe_one (pe_cmp (pc_din (hu_of hr) (pe_op (op_add4 : OpR _ _ (rAdd4 K)) (pe_ix (ix_seq : IxR _ (rIx K)) (pv 1) (pv 2) (fun _ _ => rfl)) (pe_ix (ix_seq : IxR _ (rIx K)) (pv 1) (pv 3) (fun _ _ => rfl))) (pe_callTy (call_dictP' rfl) (by rfl) B.dict (by decide +kernel) (pa_cons (pe_ix (ix_seq : IxR _ (rIx K)) (pv 0) pe_int (fun _ _ => rfl)) pa_nil)))))))), ?_⟩
  refine sRet (GD.is (gAndV (gCmpI (f := fun i j => decide (j < i)) (eSub (gV (.int j)) (gV (.int i))) (gRul2 (gRul hR))) fun _ => gInK (k := .inr (both z i j)) (gBoth (gV (.str z)) (gV (.int i)) (gV (.str z)) (gV (.int j)) hz h1 h2) (gDictP (gRul1 (gRul hR)))) ?_) sS q
  rw [pwO_val]
  show PyData.bool (decide (r.span < j - i) && ((pwO r (both z i j)).map V.int).isSome) = .bool (decide (j - i > r.span) && (pwO r (both z i j)).isSome)
  cases pwO r (both z i j) <;> rfl
theorem callFits {r : Rl} {z : Str} {i j : Int} {t1 t2 t3 t4 : TE} (h1 : Gv t1 σ S fun S' x => RulesAt S' x r) (h2 : GD t2 σ S (.str z)) (h3 : GD t3 σ S (.int i)) (h4 : GD t4 σ S (.int j)) (hz : z.length ≤ 12) (hi : 0 ≤ i ∧ i < (z.length : Int)) (hj : 0 ≤ j ∧ j < (z.length : Int)) :
    GD (tCall (spP R_fits) [] E0 (tCons t1 (tCons t2 (tCons t3 (tCons t4 tNil))))) σ S (.bool ((gOf r z).fits i j)) :=
  gCall (RP := R_fits) ((gA4 (mR r) (mD (.str z)) (mD (.int i)) h1 h2 h3 h4).weak fun S2 vs a hv => by
    obtain ⟨x1, x2, x3, x4, rfl, hx1, hx2, hx3, hx4⟩ := hv
    cases hx2; cases hx3; cases hx4
    exact ⟨x1, r, z, i, j, rfl, hx1, hz, hi, hj, rfl⟩)
/-- listed, for distances up to m -/
def R_listed (m : Nat) : Hp → List V → (Hp → V → Prop) → Prop := fun S vs Post => ∃ (v : V) (r : Rl) (z : Str) (i j : Int), vs = [v, .str z, .int i, .int j] ∧ RulesAt S v r ∧ z.length ≤ 7 ∧ (0 ≤ i ∧ i ≤ 10) ∧ (-1 ≤ j ∧ j < (z.length : Int)) ∧ (j - i).toNat ≤ m ∧ Post = fun S' x => DD S' x (.list ((listF (gOf r z) m i j).map eFo))
theorem callListed {m : Nat} {r : Rl} {z : Str} {i j : Int} {t1 t2 t3 t4 : TE} (h1 : Gv t1 σ S fun S' x => RulesAt S' x r) (h2 : GD t2 σ S (.str z)) (h3 : GD t3 σ S (.int i)) (h4 : GD t4 σ S (.int j)) (hz : z.length ≤ 7) (hi : 0 ≤ i ∧ i ≤ 10) (hj : -1 ≤ j ∧ j < (z.length : Int)) (hm : (j - i).toNat ≤ m) :
    GD (tCall (spP (R_listed m)) [] E0 (tCons t1 (tCons t2 (tCons t3 (tCons t4 tNil))))) σ S (.list ((listF (gOf r z) m i j).map eFo)) :=
  gCall (RP := R_listed m) ((gA4 (mR r) (mD (.str z)) (mD (.int i)) h1 h2 h3 h4).weak fun S2 vs a hv => by
    obtain ⟨x1, x2, x3, x4, rfl, hx1, hx2, hx3, hx4⟩ := hv
    cases hx2; cases hx3; cases hx4
    exact ⟨x1, r, z, i, j, rfl, hx1, hz, hi, hj, hm, rfl⟩)
theorem take_flat_len {α β : Type} {f : α → List β} {l : List α} {n : Nat} : ((l.take n).flatMap f).length ≤ (l.flatMap f).length := by
  have e : l.flatMap f = (l.take n).flatMap f ++ (l.drop n).flatMap f := by rw [← List.flatMap_append, List.take_append_drop]
  rw [e, List.length_append]
  omega
theorem listF_step {g : G} {m : Nat} {i j : Int} (h : ¬ i ≥ j) : listF g (m + 1) i j = listF g m (i + 1) j ++ (irange (i + 1) (j + 1)).flatMap fun k =>
      if g.fits i k = true then (listF g m (i + 1) (k - 1)).flatMap fun one => (listF g m (k + 1) j).map fun other => (i, k) :: (one ++ other) else [] := by
  rw [listF, if_neg h]
theorem ok_law_listed {f : Addr} {fd : FuncData} (F : Fun K "_law_listed" "_law_listed" s_law_listed f fd) (B : BI mg) (c_law_fits : Ok P w K mg base "_law_fits" ["_law_given", "_law_writ_here", "_law_i", "_law_j"] 1 (spP R_fits))
    (gS : mg "_law_listed" = some (.ref f)) (kS : PySem.W.keepIn K (.ref f) = true) (bS : Binds K fd ["_law_given", "_law_writ_here", "_law_i", "_law_j"] []) : ∀ m : Nat, m ≤ 6 → FnOk P w K mg base CX0 (m + 3) f fd ["_law_given", "_law_writ_here", "_law_i", "_law_j"] (spP (R_listed m))
  | 0, _ => by
    refine okP F sc_law_listed (fun S vs Post h => by obtain ⟨v, r, z, i, j, rfl, _⟩ := h; rfl) fun cdv A outer s H S vs Post Q E hr sS h q => ?_
    obtain ⟨v, r, z, i, j, rfl, hR, hz, h1, h2, hm, rfl⟩ := h
    refine ⟨_, pss_cons (ps_if (pt_cmpR op_ge (pv 2) (pv 3) (nomark _)) (pss_one (ps_ret (pe_lst (pa_cons (pe_lst pa_nil) pa_nil)))) pss_nil) pss_never, ?_⟩
    refine sIf (b := true) (gTest (GD.is (gCmpI (f := fun i j => decide (j ≤ i)) (gV (.int i)) (gV (.int j))) (by rw [decide_eq_true (by omega)]))) sS (fun _ S1 H1 g1 => ?_) fun h => by cases h
    exact sRet (eLst (gaCons (eLst gaNil) gaNil)) g1.sh fun v' S5 H5 g5 h5 => q v' S5 H5 (g1.trans g5) h5
  | m + 1, hm6 => by
    have c_law_listed : Ok P w K mg base "_law_listed" ["_law_given", "_law_writ_here", "_law_i", "_law_j"] (m + 3) (spP (R_listed m)) := ⟨f, fd, ok_law_listed F B c_law_fits gS kS bS m (by omega), gS, kS, bS⟩
    refine okP F sc_law_listed (fun S vs Post h => by obtain ⟨v, r, z, i, j, rfl, _⟩ := h; rfl) fun cdv A outer s H S vs Post Q E hr sS h q => ?_
    obtain ⟨v, r, z, i, j, rfl, hR, hz, h1, h2, hm, rfl⟩ := h
    refine ⟨_, (pss_cons (ps_if (pt_cmpR op_ge (pv 2) (pv 3) (nomark _)) (pss_one (ps_ret (pe_lst (pa_cons (pe_lst pa_nil) pa_nil)))) pss_nil)
      (pss_cons (ps_set (i := 4) sc_law_listed.nd rfl (by first | exact .inl rfl | exact .inr rfl) (pe_ok c_law_listed (hr.mono (by omega)) (by rfl) (pa_cons (pv 0) (pa_cons (pv 1) (pa_cons (pe_op (op_add4 : OpR _ _ (rAdd4 K)) (pv 2) pe_int) (pa_cons (pv 3) pa_nil))))))
      (pss_cons (ps_for PassesOwn.never rfl (pi_range2 (by rfl) B.range (pa_cons (pe_op (op_add4 : OpR _ _ (rAdd4 K)) (pv 2) pe_int) (pa_cons (pe_op (op_add4 : OpR _ _ (rAdd4 K)) (pv 3) pe_int) pa_nil))) (pg_name (i := 5) sc_law_listed.nd rfl (by first | exact .inl rfl | exact .inr rfl)) (pss_one (ps_if (pt_val (pe_ok c_law_fits (hr.mono (by omega)) (by rfl) (pa_cons (pv 0) (pa_cons (pv 1) (pa_cons (pv 2) (pa_cons (pv 5) pa_nil)))))) (pss_cons (ps_set (i := 6) sc_law_listed.nd rfl (by first | exact .inl rfl | exact .inr rfl) (pe_ok c_law_listed (hr.mono (by omega)) (by rfl) (pa_cons (pv 0) (pa_cons (pv 1) (pa_cons (pe_op (op_add4 : OpR _ _ (rAdd4 K)) (pv 5) pe_int) (pa_cons (pv 3) pa_nil))))))
      (pss_one (ps_for PassesOwn.never rfl (pi_list (pe_ok c_law_listed (hr.mono (by omega)) (by rfl) (pa_cons (pv 0) (pa_cons (pv 1) (pa_cons (pe_op (op_add4 : OpR _ _ (rAdd4 K)) (pv 2) pe_int) (pa_cons (pe_op op_sub (pv 5) pe_int) pa_nil)))))) (pg_name (i := 7) sc_law_listed.nd rfl (by first | exact .inl rfl | exact .inr rfl)) (pss_one (ps_set (i := 4) sc_law_listed.nd rfl (by first | exact .inl rfl | exact .inr rfl) (pe_op (op_add4 : OpR _ _ (rAdd4 K)) (pv 4) (pe_lc (own := [("_law_other", 8)]) (g := (gName 8)) (by rfl) sc_law_listed.nd (pi_list (pv 6)) (blkOk_by (own := [("_law_other", 8)]) (N := ["_law_given", "_law_writ_here", "_law_i", "_law_j", "_law_found", "_law_k", "_law_behind", "_law_one", "_law_other"]) (sc := defScope s_law_listed) (by decide +kernel)) (fun _ _ _ _ _ => (pg_name (i := 8) sc_law_listed.nd rfl (by first | exact .inl rfl | exact .inr rfl))) (fun _ _ _ _ _ => pts_nil) (fun _ _ _ _ _ => (pe_op (op_add4 : OpR _ _ (rAdd4 K)) (pe_op (op_add4 : OpR _ _ (rAdd4 K)) (pe_lst (pa_cons (pe_tup (pa_cons (pv 2) (pa_cons (pv 5) pa_nil))) pa_nil)) (pv 7)) (pv 8)))))))))) pss_nil)))
      (pss_one (ps_ret (pv 4)))))), ?_⟩
    refine sIf (gTest (gCmpI (f := fun i j => decide (j ≤ i)) (gV (.int i)) (gV (.int j)))) sS (fun hb S1 H1 g1 => ?_) fun hb S1 H1 g1 => ?_
    · have hb := of_decide_eq_true hb
      refine sRet (eLst (gaCons (eLst gaNil) gaNil)) g1.sh fun v' S5 H5 g5 h5 => q v' S5 H5 (g1.trans g5) ?_
      rw [listF, if_pos hb]
      exact h5
    have hb := of_decide_eq_false hb
    have hR1 := hR.mono g1.ss
    generalize hg : gOf r z = g at *
    have LN : ∀ (a b : Int), (b - a).toNat ≤ m → (listF g m a b).length ≤ 39760 := fun a b h => Nat.le_trans (listF_len m a b 6 h (by omega)) (by rw [NB6]; exact Nat.le_refl _)
    have LT : (listF g (m + 1) i j).length ≤ 39760 := Nat.le_trans (listF_len (m + 1) i j 6 hm (by omega)) (by rw [NB6]; exact Nat.le_refl _)
    have LF : ((irange (i + 1) (j + 1)).flatMap fun k => if g.fits i k = true then (listF g m (i + 1) (k - 1)).flatMap fun one => (listF g m (k + 1) j).map fun other => (i, k) :: (one ++ other) else []).length ≤ 39760 := by
      rw [listF_step hb, List.length_append] at LT
      omega
    have cl : ∀ {S : Hp} {σ : L2.St} {a b : Int} {t1 t2 t3 t4 : TE}, (Gv t1 σ S fun S' x => RulesAt S' x r) → GD t2 σ S (.str z) → GD t3 σ S (.int a) → GD t4 σ S (.int b) → (0 ≤ a ∧ a ≤ 10) → (-1 ≤ b ∧ b < (z.length : Int)) → (b - a).toNat ≤ m →
        GD (tCall (spP (R_listed m)) [] E0 (tCons t1 (tCons t2 (tCons t3 (tCons t4 tNil))))) σ S (.list ((listF g m a b).map eFo)) := fun h1 h2 h3 h4 hi hj hm => by
      rw [← hg]
      exact callListed h1 h2 h3 h4 hz hi hj hm
    refine sAsg (cl (gRul hR1) (gV (.str z)) (gAddI (gV (.int i)) gInt) (gV (.int j)) (by omega) (by omega) (by omega)) g1.sh fun fv S2 H2 g2 hf => ?_
    refine fForR2 [] (fun t σ' S' H' => ∃ fv e5 e6 e7 e8, σ' = [some v, some (.str z), some (.int i), some (.int j), some fv, e5, e6, e7, e8] ∧ DD S' fv (.list ((listF g m (i + 1) j ++ ((irange (i + 1) (j + 1)).take t).flatMap fun k => if g.fits i k = true then (listF g m (i + 1) (k - 1)).flatMap fun one => (listF g m (k + 1) j).map fun other => (i, k) :: (one ++ other) else []).map eFo)))
      (gaCons (gAddI (gV (.int i)) gInt) (gaCons (gAddI (gV (.int j)) gInt) gaNil)) (sm_of (by omega)) (sm_of (by omega)) g2.sh (fun S3 H3 g3 => ⟨_, _, _, _, _, rfl, by rw [List.take_zero, List.flatMap_nil, List.append_nil]; exact hf.mono g3.ss⟩) (fun t σ' S' H' N ht gr hI hN => ?_) fun σ' S' H' gr hI => ?_
    · obtain ⟨fv', e5, e6, e7, e8, rfl, hfv⟩ := hI
      have hR3 := (hR1.mono g2.ss).mono gr.ss
      generalize hk : i + 1 + (t : Int) = k at *
      have hget : (irange (i + 1) (j + 1))[t]? = some k := by rw [← hk]; exact irange_get (by omega)
      refine sIf (gB (callFits (gRul hR3) (gV (.str z)) (gV (.int i)) (gV (.int k)) (by omega) (by omega) (by omega))) gr.sh (fun hfit S3 H3 g3 => ?_) fun hfit S3 H3 g3 => ?_
      · rw [hg] at hfit
        refine sAsg (cl (gRul (hR3.mono g3.ss)) (gV (.str z)) (gAddI (gV (.int k)) gInt) (gV (.int j)) (by omega) (by omega) (by omega)) g3.sh fun bv S4 H4 g4 hbv => ?_
        have hR4 := (hR3.mono g3.ss).mono g4.ss
        have P1 : ((((irange (i + 1) (j + 1)).take t).flatMap fun k => if g.fits i k = true then (listF g m (i + 1) (k - 1)).flatMap fun one => (listF g m (k + 1) j).map fun other => (i, k) :: (one ++ other) else [])).length ≤ 39760 := Nat.le_trans take_flat_len LF
        have P2 : ((listF g m (i + 1) (k - 1)).flatMap fun one => (listF g m (k + 1) j).map fun other => (i, k) :: (one ++ other)).length ≤ 39760 := by
          refine Nat.le_trans ?_ LF
          have h3 := take_flatMap (f := fun k => if g.fits i k = true then (listF g m (i + 1) (k - 1)).flatMap fun one => (listF g m (k + 1) j).map fun other => (i, k) :: (one ++ other) else []) hget
          have h4 := take_flat_len (f := fun k => if g.fits i k = true then (listF g m (i + 1) (k - 1)).flatMap fun one => (listF g m (k + 1) j).map fun other => (i, k) :: (one ++ other) else []) (l := irange (i + 1) (j + 1)) (n := t + 1)
          rw [h3, if_pos hfit, List.length_append] at h4
          omega
        generalize hF0 : (listF g m (i + 1) j ++ ((irange (i + 1) (j + 1)).take t).flatMap fun k => if g.fits i k = true then (listF g m (i + 1) (k - 1)).flatMap fun one => (listF g m (k + 1) j).map fun other => (i, k) :: (one ++ other) else []) = F0 at hfv
        have LF0 : F0.length ≤ 79520 := by
          rw [← hF0, List.length_append]
          have := LN (i + 1) j (by omega)
          omega
        refine fForL [] (listF g m (i + 1) (k - 1)) eFo (fun a σ2 S'' H'' => ∃ fv e7 e8, σ2 = [some v, some (.str z), some (.int i), some (.int j), some fv, some (.int k), some bv, e7, e8] ∧ DD S'' fv (.list ((F0 ++ ((listF g m (i + 1) (k - 1)).take a).flatMap fun one => (listF g m (k + 1) j).map fun other => (i, k) :: (one ++ other)).map eFo)))
          (cl (gRul hR4) (gV (.str z)) (gAddI (gV (.int i)) gInt) (eSub (gV (.int k)) gInt) (by omega) (by omega) (by omega)) g4.sh (fun S5 H5 g5 => ⟨_, _, _, rfl, by rw [List.take_zero, List.flatMap_nil, List.append_nil]; exact (hfv.mono (g3.ss.trans g4.ss)).mono g5.ss⟩) (fun a one ov σ2 S'' H'' N2 hone g' hov hI2 hN2 => ?_) fun σ2 S'' H'' g' hI2 => ?_
        · obtain ⟨fv2, e7, e8, rfl, hfv2⟩ := hI2
          have hbv' := hbv.mono g'.ss
          refine sAsg (gAddL (gV hfv2) (gLc1 (listF g m (k + 1) j) eFo (fun other => eFo ((i, k) :: (one ++ other))) (gV hbv') (Nat.le_trans (LN _ _ (by omega)) (by decide)) fun other ho u S6 e hu => turnN rfl gYes fun _ => ?_) ?_) g'.sh fun nv S7 H7 g7 hnv => ?_
          · have l1 := Fold.len ((mem_listF m _ _ _ (by omega)).mp (List.mem_of_getElem? hone))
            have l2 := Fold.len ((mem_listF m _ _ _ (by omega)).mp ho)
            refine GD.is (gAddL (gAddL (eLst (gaCons (eTup (gaCons (gV (.int i)) (gaCons (gV (.int k)) gaNil))) gaNil)) (gV (hov.mono e)) ?_) (gV hu) ?_) ?_
            · rw [List.length_map]
              exact Nat.le_trans (show _ ≤ 64 by simp only [List.length_cons, List.length_nil]; omega) (by decide)
            · rw [List.length_append, List.length_map, List.length_map]
              exact Nat.le_trans (show _ ≤ 64 by simp only [List.length_cons, List.length_nil]; omega) (by decide)
            · unfold eFo
              rw [List.map_cons, List.map_append, List.append_assoc]
              rfl
          · rw [List.length_map, List.length_append, List.length_map]
            have h6 := take_flat_len (f := fun one => (listF g m (k + 1) j).map fun other => (i, k) :: (one ++ other)) (l := listF g m (i + 1) (k - 1)) (n := a)
            have h7 := LN (k + 1) j (by omega)
            exact Nat.le_trans (show _ ≤ 1000000 by omega) (by decide)
          · refine hN2 _ S7 _ g7 ⟨_, _, _, rfl, ?_⟩
            rw [take_flatMap hone, ← List.append_assoc, List.map_append (l₁ := F0 ++ _), List.map_map]
            exact hnv
        · obtain ⟨fv2, e7, e8, rfl, hfv2⟩ := hI2
          refine hN _ S'' _ ((g3.trans g4).trans g') ⟨_, _, _, _, _, rfl, ?_⟩
          rw [List.take_length] at hfv2
          rw [take_flatMap hget, if_pos hfit, ← List.append_assoc, hF0]
          exact hfv2
      · rw [hg] at hfit
        refine hN _ S3 _ g3 ⟨_, _, _, _, _, rfl, ?_⟩
        rw [take_flatMap hget, if_neg (by rw [hfit]; exact Bool.false_ne_true), List.append_nil]
        exact hfv.mono g3.ss
    · obtain ⟨fv', e5, e6, e7, e8, rfl, hfv⟩ := hI
      rw [List.take_of_length_le (by rw [irange_len]; omega), ← listF_step hb] at hfv
      exact sRet (gV hfv) gr.sh fun v' S5 H5 g5 h5 => q v' S5 H5 (g1.trans (g2.trans (gr.trans g5))) h5
end
end PF
-- part PfL2
set_option Elab.async false
set_option linter.all false
set_option maxRecDepth 100000
set_option maxHeartbeats 4000000
namespace PF
open PySem PySem.Spec PyProof.Rows L2
theorem sc_law_straight : FnScope ["_law_pairs_so", "_law_low", "_law_high", "_law_found", "_law_end", "_law_i", "_law_j"] ["_law_pairs_so", "_law_low", "_law_high"] (defScope s_law_straight) := ⟨rfl, rfl, rfl, by decide +kernel, rfl, by decide +kernel, by decide +kernel⟩
theorem sc_law_loop : FnScope ["_law_given", "_law_writ_here", "_law_pairs_so", "_law_pair_so", "_law_told", "_law_i", "_law_j", "_law_inner_so", "_law_free_so", "_law_p", "_law_q", "_law_many_so", "_law_more_so", "_law_row"] ["_law_given", "_law_writ_here", "_law_pairs_so", "_law_pair_so"] (defScope s_law_loop) := ⟨rfl, rfl, rfl, by decide +kernel, rfl, by decide +kernel, by decide +kernel⟩
def Rising (f : List Pr) : Prop := f.Pairwise fun p q => p.1 < q.1
theorem leDt_prs {f : List Pr} (h : Rising f) : (f.map ePr).Pairwise fun a b => leDt a b = true := by
  rw [List.pairwise_map]
  refine List.Pairwise.imp (fun {a b} h => ?_) h
  show (!PySem.W.dataLt (ePr b) (ePr a)) = true
  unfold ePr
  rw [PySem.W.dataLt_ii, decide_eq_false (by omega)]
  rfl
section
variable {P : Program} {w : World} {K : PySem.W.Frag} {mg : Str → Option Value} {base : Heap} {S : Hp} {σ : L2.St} {ta tb : TE}
def R_straight : Hp → List V → (Hp → V → Prop) → Prop := fun S vs Post => ∃ (v : V) (f : List Pr) (lo hi : Int), vs = [v, .int lo, .int hi] ∧ DD S v (eFo f) ∧ Rising f ∧ f.length ≤ 1000 ∧ Post = fun S' x => DD S' x (eFo (straight f lo hi))
theorem ok_law_straight {f : Addr} {fd : FuncData} {k : Nat} (F : Fun K "_law_straight" "_law_straight" s_law_straight f fd) (B : BI mg) : FnOk P w K mg base CX0 (k + 1) f fd ["_law_pairs_so", "_law_low", "_law_high"] (spP R_straight) := by
  refine okP F sc_law_straight (fun S vs Post h => by obtain ⟨v, f, i, j, rfl, _⟩ := h; rfl) fun cdv A outer s H S vs Post Q E hr sS h q => ?_
  obtain ⟨v, fo, lo, hi, rfl, hv, hri, hl, rfl⟩ := h
  refine ⟨_, (pss_cons (ps_set (i := 3) sc_law_straight.nd rfl (by first | exact .inl rfl | exact .inr rfl) (pe_lst pa_nil))
      (pss_cons (ps_set (i := 4) sc_law_straight.nd rfl (by first | exact .inl rfl | exact .inr rfl) (pv 1))
      (pss_cons (ps_for PassesOwn.never rfl (pi_list (pe_callB (cr_srt hr.units) (by rfl) B.sorted (by decide +kernel) (pa_cons (pv 0) pa_nil))) (pg_tup (by rfl) (pgs_cons (pg_name (i := 5) sc_law_straight.nd rfl (by first | exact .inl rfl | exact .inr rfl)) (pgs_cons (pg_name (i := 6) sc_law_straight.nd rfl (by first | exact .inl rfl | exact .inr rfl)) pgs_nil))) (pss_one (ps_if (PW.pt (pw_and (pt_cmpR op_gt (pv 5) (pv 4) (nomark _)) (pw_and1 (pt_cmpR op_lt (pv 6) (pv 2) (nomark _))))) (pss_cons (ps_expr (pe_bm PySem.F.plainAttrs_list PySem.F.slot_list_append PySem.F.type_list_append mt_append (pv 3) (pa_cons (pe_tup (pa_cons (pv 5) (pa_cons (pv 6) pa_nil))) pa_nil)))
      (pss_one (ps_set (i := 4) sc_law_straight.nd rfl (by first | exact .inl rfl | exact .inr rfl) (pv 6)))) pss_nil)))
      (pss_one (ps_ret (pv 3)))))), ?_⟩
  refine sAsgP gaNil sS fun o xs0 S2 H2 g2 o0 n2 e2 d2 => ?_
  refine sAsg (gV (.int lo)) g2.sh fun lv S3 H3 g3 hlv => ?_
  cases hlv
  refine fForL [o] fo ePr (fun t σ' S' H' => ∃ e5 e6 xs, σ' = [some v, some (.int lo), some (.int hi), some (.ref o), some (.int (endS (fo.take t) lo hi)), e5, e6] ∧ S' o = none ∧ H' o = some (.lst xs) ∧ DDs S' xs ((straight (fo.take t) lo hi).map ePr))
    (gSorted (gV (hv.mono (g2.ss.trans g3.ss))) (srt_prs fo) fun S' v ds' _ _ hs h => by rw [hs (leDt_prs hri)] at h; exact h) g3.sh (fun S4 H4 g4 => ⟨_, _, xs0, rfl, g4.hide (g3.hide n2 e2) (g3.same _ _ e2), g4.same _ _ (g3.same _ _ e2), d2.mono (g3.ss.trans g4.ss)⟩) (fun t p u σ' S' H' N hx g hu hI hN => ?_) fun σ' S' H' g hI => ?_
  · obtain ⟨e5, e6, xs, rfl, n, eo, hd⟩ := hI
    obtain ⟨i, j⟩ := p
    have htk : fo.take (t + 1) = fo.take t ++ [(i, j)] := by rw [List.take_add_one, hx]; rfl
    have hxl : xs.length ≤ 1000 := by
      rw [hd.len, List.length_map]
      have h1 := straight_len (fo.take t) lo hi
      rw [List.length_take] at h1
      omega
    refine gt2 hu g.sh fun x y h1 h2 => ?_
    cases h1; cases h2
    refine sIf (b := decide (endS (fo.take t) lo hi < i) && decide (j < hi)) (gAnd (gTest (gCmpI (f := fun i j => decide (j < i)) (gV (.int i)) (gV (.int (endS (fo.take t) lo hi))))) fun _ => gTest (gCmpI (f := fun i j => decide (i < j)) (gV (.int j)) (gV (.int hi)))) g.sh (fun hb S5 H5 g5 => ?_) fun hb S5 H5 g5 => ?_
    · rw [Bool.and_eq_true, decide_eq_true_eq, decide_eq_true_eq] at hb
      refine sApp (gvI (mV _) rfl) (eTup (gaCons (gV (.int i)) (gaCons (gV (.int j)) gaNil))) g5.sh (g5.hide n eo) (g5.same _ _ eo) (Nat.lt_of_le_of_lt hxl (by decide)) fun y S6 H6 _ g6 hy n6 => ?_
      refine sAsg (gV (.int j)) g6.sh fun jv S7 H7 g7 hj => ?_
      cases hj
      refine hN _ S7 _ (g5.up0.trans (g6.trans g7.up0)) ⟨_, _, _, by rw [htk, endS_snoc, if_pos hb]; rfl, g7.hide n6 upd_same, g7.same _ _ upd_same, ?_⟩
      rw [htk, straight_snoc, if_pos hb]
      exact (hd.mono ((g5.ss.trans g6.ss).trans g7.ss)).flat (.cons (hy.mono g7.ss) .nil)
    · refine hN _ S5 _ g5.up0 ⟨_, _, _, by rw [htk, endS_snoc, if_neg (fun z => by rw [decide_eq_true z.1, decide_eq_true z.2] at hb; cases hb)]; rfl, g5.hide n eo, g5.same _ _ eo, ?_⟩
      rw [htk, straight_snoc, if_neg (fun z => by rw [decide_eq_true z.1, decide_eq_true z.2] at hb; cases hb), List.append_nil]
      exact hd.mono g5.ss
  · obtain ⟨e5, e6, xs, rfl, n, eo, hd⟩ := hI
    rw [List.take_length] at hd
    exact sRetP rfl (tellL (Gr.over1 (g2.trans g3) g o0) o0 n eo hd q)
theorem callStraight {fo : List Pr} {lo hi : Int} {t1 t2 t3 : TE} (h1 : GD t1 σ S (eFo fo)) (h2 : GD t2 σ S (.int lo)) (h3 : GD t3 σ S (.int hi)) (hr : Rising fo) (hl : fo.length ≤ 1000) : GD (tCall (spP R_straight) [] E0 (tCons t1 (tCons t2 (tCons t3 tNil)))) σ S (eFo (straight fo lo hi)) :=
  gCall (RP := R_straight) ((gA3 (mD _) (mD (.int lo)) h1 h2 h3).weak fun S2 vs a hv => by
    obtain ⟨x1, x2, x3, rfl, hx1, hx2, hx3⟩ := hv
    cases hx2; cases hx3
    exact ⟨x1, fo, lo, hi, rfl, hx1, hr, hl, rfl⟩)
/-- told[k] of the loops' tuple -/
theorem gLoop {n : Nat} {te : TE} {r : Rl} (h : GD te σ S (.tuple (r.loops.map .int))) (ok : RlOk r) (hn : n < 9 := by decide) : GD (tOp (rIx K) te (tC (.int (n : Int)))) σ S (.int (r.loops.getD n 0)) := by
  refine gIxT h gInt (atI_nat ?_)
  rw [List.getElem?_map, List.getElem?_eq_getElem (by rw [ok.n9]; exact hn), List.getD_eq_getElem?_getD, List.getElem?_eq_getElem (by rw [ok.n9]; exact hn)]
  rfl
theorem cm_loop {r : Rl} (ok : RlOk r) (i : Int) (n : Nat) : CMul i (r.loops.getD n 0) := by
  have := ok.lo' n
  exact .inr ⟨by omega, by omega⟩
def R_loop : Hp → List V → (Hp → V → Prop) → Prop := fun S vs Post => ∃ (v fv pav : V) (r : Rl) (z : Str) (fo : List Pr) (p : Pr), vs = [v, .str z, fv, pav] ∧ RulesAt S v r ∧ RlOk r ∧ ZOk z ∧ DD S fv (eFo fo) ∧ DD S pav (ePr p) ∧ Rising fo ∧ fo.length ≤ 12 ∧
  (∀ a ∈ fo, 0 ≤ a.1 ∧ a.1 < (z.length : Int) ∧ 0 ≤ a.2 ∧ a.2 < (z.length : Int)) ∧ p ∈ fo ∧ Post = fun S' x => ∃ t fr, DD S' x (.tuple [.str t, .int fr, .int (loopW (gOf r z) fo p)])
theorem stkW_sum {r : Rl} (ok : RlOk r) (a b : Str) : ((r.stacks.filter fun t => decide (t.1 = a) && decide (t.2.1 = b)).map (·.2.2)).sum = stkW r a b := by
  unfold stkW
  have nd := ok.nd
  generalize r.stacks = l at nd
  induction l with
  | nil => rfl
  | cons t l ih =>
    rw [List.map_cons, List.nodup_cons] at nd
    by_cases h : (decide (t.1 = a) && decide (t.2.1 = b)) = true
    · rw [List.filter_cons, if_pos h]
      have hz : l.filter (fun t => decide (t.1 = a) && decide (t.2.1 = b)) = [] := by
        rw [List.filter_eq_nil_iff]
        intro x hx hh
        rw [Bool.and_eq_true, decide_eq_true_eq, decide_eq_true_eq] at h hh
        exact nd.1 (List.mem_map.mpr ⟨x, hx, by rw [h.1, h.2, hh.1, hh.2]⟩)
      rw [hz]
      simp
    · rw [List.filter_cons, if_neg h]
      exact ih nd.2
theorem ok_law_loop {f : Addr} {fd : FuncData} {k : Nat} (F : Fun K "_law_loop" "_law_loop" s_law_loop f fd) (B : BI mg) (c_law_straight : Ok P w K mg base "_law_straight" ["_law_pairs_so", "_law_low", "_law_high"] 1 (spP R_straight)) (hk : 1 ≤ k) :
    FnOk P w K mg base CX0 (k + 1) f fd ["_law_given", "_law_writ_here", "_law_pairs_so", "_law_pair_so"] (spP R_loop) := by
  refine okP F sc_law_loop (fun S vs Post h => by obtain ⟨v, fv, pav, r, z, fo, p, rfl, _⟩ := h; rfl) fun cdv A outer s H S vs Post Q E hr sS h q => ?_
  obtain ⟨v, fv, pav, r, z, fo, ⟨i, j⟩, rfl, hR, ok, zk, hfv, hpv, hri, hl, hin, hp, rfl⟩ := h
  refine ⟨_, (pss_cons (ps_set (i := 4) sc_law_loop.nd rfl (by first | exact .inl rfl | exact .inr rfl) (pe_ix (ix_seq : IxR _ (rIx K)) (pv 0) pe_int (fun _ _ => rfl)))
      (pss_cons (ps_asg (pv 3) (pg_tup (by rfl) (pgs_cons (pg_name (i := 5) sc_law_loop.nd rfl (by first | exact .inl rfl | exact .inr rfl)) (pgs_cons (pg_name (i := 6) sc_law_loop.nd rfl (by first | exact .inl rfl | exact .inr rfl)) pgs_nil))))
      (pss_cons (ps_set (i := 7) sc_law_loop.nd rfl (by first | exact .inl rfl | exact .inr rfl) (pe_ok c_law_straight (hr.mono (by omega)) (by rfl) (pa_cons (pv 2) (pa_cons (pv 5) (pa_cons (pv 6) pa_nil)))))
      (pss_cons (ps_set (i := 8) sc_law_loop.nd rfl (by first | exact .inl rfl | exact .inr rfl) (pe_op op_sub (pe_op op_sub (pe_op op_sub (pv 6) (pv 5)) pe_int) (pe_callB (cr_sum rfl : CallR _ _ (rSum K)) (by rfl) B.sum (by decide +kernel) (pa_cons (pe_lc (own := [("_law_p", 9), ("_law_q", 10)]) (g := (gTup K 2 (gCons (gName 9) (gCons (gName 10) gNil)))) (by rfl) sc_law_loop.nd (pi_list (pv 7)) (blkOk_by (own := [("_law_p", 9), ("_law_q", 10)]) (N := ["_law_given", "_law_writ_here", "_law_pairs_so", "_law_pair_so", "_law_told", "_law_i", "_law_j", "_law_inner_so", "_law_free_so", "_law_p", "_law_q", "_law_many_so", "_law_more_so", "_law_row"]) (sc := defScope s_law_loop) (by decide +kernel)) (fun _ _ _ _ _ => (pg_tup (by rfl) (pgs_cons (pg_name (i := 9) sc_law_loop.nd rfl (by first | exact .inl rfl | exact .inr rfl)) (pgs_cons (pg_name (i := 10) sc_law_loop.nd rfl (by first | exact .inl rfl | exact .inr rfl)) pgs_nil)))) (fun _ _ _ _ _ => pts_nil) (fun _ _ _ _ _ => (pe_op (op_add4 : OpR _ _ (rAdd4 K)) (pe_op op_sub (pv 10) (pv 9)) pe_int))) pa_nil))))
      (pss_cons (ps_if (pt_cmpR (op_eqD hr.units : OpR _ _ (rEqD K)) (pv 7) (pe_lst pa_nil) (nomark _)) (pss_one (ps_ret (pe_tup (pa_cons pe_str (pa_cons (pv 8) (pa_cons (pe_op (op_add4 : OpR _ _ (rAdd4 K)) (pe_ix (ix_seq : IxR _ (rIx K)) (pv 4) pe_int (fun _ _ => rfl)) (pe_op op_mul (pv 8) (pe_ix (ix_seq : IxR _ (rIx K)) (pv 4) pe_int (fun _ _ => rfl)))) pa_nil)))))) pss_nil)
      (pss_cons (ps_if (pt_cmpR op_gt (pe_callB (call_lenA : CallR _ _ (rLenA K)) (by rfl) B.len (by decide +kernel) (pa_cons (pv 7) pa_nil)) pe_int (nomark _)) (pss_cons (ps_set (i := 11) sc_law_loop.nd rfl (by first | exact .inl rfl | exact .inr rfl) (pe_callB (call_lenA : CallR _ _ (rLenA K)) (by rfl) B.len (by decide +kernel) (pa_cons (pv 7) pa_nil)))
      (pss_one (ps_ret (pe_tup (pa_cons pe_str (pa_cons (pv 8) (pa_cons (pe_op (op_add4 : OpR _ _ (rAdd4 K)) (pe_op (op_add4 : OpR _ _ (rAdd4 K)) (pe_ix (ix_seq : IxR _ (rIx K)) (pv 4) pe_int (fun _ _ => rfl)) (pe_op op_mul (pv 11) (pe_ix (ix_seq : IxR _ (rIx K)) (pv 4) pe_int (fun _ _ => rfl)))) (pe_op op_mul (pv 8) (pe_ix (ix_seq : IxR _ (rIx K)) (pv 4) pe_int (fun _ _ => rfl)))) pa_nil))))))) pss_nil)
      (pss_cons (ps_if (pt_cmpR op_gt (pv 8) pe_int (nomark _)) (pss_one (ps_ret (pe_tup (pa_cons pe_str (pa_cons (pv 8) (pa_cons (pe_op (op_add4 : OpR _ _ (rAdd4 K)) (pe_ix (ix_seq : IxR _ (rIx K)) (pv 4) pe_int (fun _ _ => rfl)) (pe_op op_mul (pv 8) (pe_ix (ix_seq : IxR _ (rIx K)) (pv 4) pe_int (fun _ _ => rfl)))) pa_nil)))))) pss_nil)
      (pss_cons (ps_asg (pe_ix (ix_seq : IxR _ (rIx K)) (pv 7) pe_int (fun _ _ => rfl)) (pg_tup (by rfl) (pgs_cons (pg_name (i := 9) sc_law_loop.nd rfl (by first | exact .inl rfl | exact .inr rfl)) (pgs_cons (pg_name (i := 10) sc_law_loop.nd rfl (by first | exact .inl rfl | exact .inr rfl)) pgs_nil))))
      (pss_cons (ps_setLc (i := 12) (own := [("_law_row", 13)]) (g := (gName 13)) (by rfl) sc_law_loop.nd rfl rfl (sw_true rfl rfl rfl (by decide +kernel)) (pi_tup (pe_ix (ix_seq : IxR _ (rIx K)) (pv 0) pe_int (fun _ _ => rfl))) (blkOk_by (own := [("_law_row", 13)]) (N := ["_law_given", "_law_writ_here", "_law_pairs_so", "_law_pair_so", "_law_told", "_law_i", "_law_j", "_law_inner_so", "_law_free_so", "_law_p", "_law_q", "_law_many_so", "_law_more_so", "_law_row"]) (sc := defScope s_law_loop) (by decide +kernel)) (fun _ _ _ _ _ => (pg_name (i := 13) sc_law_loop.nd rfl (by first | exact .inl rfl | exact .inr rfl))) (fun _ _ _ _ _ => (pts_one (pt_cmpR (op_eqD hr.units : OpR _ _ (rEqD K)) (pe_slice (sl_2 : SlR _ (rSl2 K)) (pv 13) po_none (po_some pe_int)) (pe_tup (pa_cons (pe_op (op_add4 : OpR _ _ (rAdd4 K)) (pe_ix (ix_seq : IxR _ (rIx K)) (pv 1) (pv 5) (fun _ _ => rfl)) (pe_ix (ix_seq : IxR _ (rIx K)) (pv 1) (pv 6) (fun _ _ => rfl))) (pa_cons (pe_op (op_add4 : OpR _ _ (rAdd4 K)) (pe_ix (ix_seq : IxR _ (rIx K)) (pv 1) (pv 9) (fun _ _ => rfl)) (pe_ix (ix_seq : IxR _ (rIx K)) (pv 1) (pv 10) (fun _ _ => rfl))) pa_nil))) (nomark _)))) (fun _ _ _ _ _ => (pe_ix (ix_seq : IxR _ (rIx K)) (pv 13) pe_int (fun _ _ => rfl))))
      (pss_one (ps_ret (pe_tup (pa_cons pe_str (pa_cons pe_int (pa_cons (pe_op (op_add4 : OpR _ _ (rAdd4 K)) (pe_ix (ix_seq : IxR _ (rIx K)) (pv 4) pe_int (fun _ _ => rfl)) (pe_callB (cr_sum rfl : CallR _ _ (rSum K)) (by rfl) B.sum (by decide +kernel) (pa_cons (pv 12) pa_nil))) pa_nil))))))))))))))), ?_⟩
  refine sAsg (gRul3 (gRul hR)) sS fun tv S1 H1 g1 ht => ?_
  refine sAsgG (gV (hpv.mono g1.ss)) g1.sh fun x S2 H2 g2 hx => gt2 hx g2.sh fun y1 y2 h1 h2 => ?_
  cases h1; cases h2
  have ht2 := ht.mono g2.ss
  refine sAsg (callStraight (gV (hfv.mono (g1.ss.trans g2.ss))) (gV (.int i)) (gV (.int j)) hri (by omega)) g2.sh fun iv S3 H3 g3 hi => ?_
  generalize hinn : straight fo i j = inner at *
  have hil : inner.length ≤ 12 := by
    rw [← hinn]
    have := straight_len fo i j
    omega
  have ht3 := ht2.mono g3.ss
  refine sAsg (eSub (eSub (eSub (gV (.int j)) (gV (.int i))) gInt) (gSum (ns := inner.map fun p => p.2 - p.1 + 1) (GD.is (gLc1 inner ePr (fun p => .int (p.2 - p.1 + 1)) (gV hi) (Nat.le_trans hil (by decide)) fun p hp u S4 e hu => turnT2 hu fun a b ha hb => ⟨rfl, gYes, fun _ => ?_⟩) (by rw [List.map_map]; rfl)))) g3.sh fun fr S4 H4 g4 hfr => ?_
  · exact gAddI (eSub (gV hb) (gV ha)) gInt
  have hw : j - i - 1 - (inner.map fun p => p.2 - p.1 + 1).sum = freeIn i j inner := by unfold freeIn; rw [widths_sum]
  rw [hw] at hfr
  cases hfr
  have hi4 := hi.mono g4.ss
  have ht4 := ht3.mono g4.ss
  have hlw : loopW (gOf r z) fo (i, j) = loopOf (gOf r z) i j inner := by rw [← hinn]; rfl
  have qq : ∀ S' H' v t fr, Gr [] S4 H4 S' H' → DD S' v (.tuple [.str t, .int fr, .int (loopOf (gOf r z) i j inner)]) → Q v H' := fun S' H' v t fr g hv => q v S' H' (((g1.trans g2).trans (g3.trans g4)).trans g) ⟨t, fr, by rw [hlw]; exact hv⟩
  refine sIf (gTest (GD.is (gEqD (gV hi4) (eLst gaNil) (sh_prs inner) (by decide +kernel) (eqv_list0 _)) rfl)) g4.sh (fun hb S5 H5 g5 => ?_) fun hb S5 H5 g5 => ?_
  · have : inner = [] := by cases inner with
      | nil => rfl
      | cons a l => simp at hb
    subst this
    refine sRet (eTup (gaCons gStr (gaCons (gV (.int _)) (gaCons (gAddI (gLoop (n := 6) (gV (ht4.mono g5.ss)) ok) (gMul (gV (.int _)) (gLoop (n := 7) (gV (ht4.mono g5.ss)) ok) (cm_loop ok _ 7))) gaNil)))) g5.sh fun v' S6 H6 g6 h6 => qq S6 H6 v' _ _ (g5.trans g6) h6
  have hne : inner ≠ [] := by rintro rfl; simp at hb
  refine sIf (gTest (gCmpI (f := fun i j => decide (j < i)) (gLenL (gV (hi4.mono g5.ss))) gInt)) g5.sh (fun hb2 S6 H6 g6 => ?_) fun hb2 S6 H6 g6 => ?_
  · have hb2 := of_decide_eq_true hb2
    rw [List.length_map] at hb2
    have ht6 := (ht4.mono g5.ss).mono g6.ss
    refine sAsg (gLenL (gV ((hi4.mono g5.ss).mono g6.ss))) g6.sh fun mv S7 H7 g7 hm => ?_
    cases hm
    rw [List.length_map]
    refine sRet (eTup (gaCons gStr (gaCons (gV (.int _)) (gaCons (gAddI (gAddI (gLoop (n := 3) (gV (ht6.mono g7.ss)) ok) (gMul (gV (.int _)) (gLoop (n := 4) (gV (ht6.mono g7.ss)) ok) (cm_loop ok _ 4))) (gMul (gV (.int _)) (gLoop (n := 5) (gV (ht6.mono g7.ss)) ok) (cm_loop ok _ 5))) gaNil)))) g7.sh fun v' S8 H8 g8 h8 => qq S8 H8 v' "forked" (freeIn i j inner) (((g5.trans g6).trans g7).trans g8) ?_
    have : loopOf (gOf r z) i j inner = (gOf r z).L 3 + (inner.length : Int) * (gOf r z).L 4 + freeIn i j inner * (gOf r z).L 5 := by
      match inner, hb2 with
      | a :: b :: l, _ => rfl
    rw [this]
    exact h8
  have hb2 := of_decide_eq_false hb2
  rw [List.length_map] at hb2
  obtain ⟨⟨p', q'⟩, rfl⟩ : ∃ a, inner = [a] := by
    match inner, hne, hb2 with
    | [a], _, _ => exact ⟨a, rfl⟩
    | a :: b :: l, _, h => exact absurd (by simp only [List.length_cons]; omega) h
  have ht6 := (ht4.mono g5.ss).mono g6.ss
  refine sIf (gTest (gCmpI (f := fun i j => decide (j < i)) (gV (.int (freeIn i j [(p', q')]))) gInt)) g6.sh (fun hb3 S7 H7 g7 => ?_) fun hb3 S7 H7 g7 => ?_
  · have hb3 := of_decide_eq_true hb3
    refine sRet (eTup (gaCons gStr (gaCons (gV (.int _)) (gaCons (gAddI (gLoop (n := 1) (gV (ht6.mono g7.ss)) ok) (gMul (gV (.int _)) (gLoop (n := 2) (gV (ht6.mono g7.ss)) ok) (cm_loop ok _ 2))) gaNil)))) g7.sh fun v' S8 H8 g8 h8 => qq S8 H8 v' "inner" (freeIn i j [(p', q')]) (((g5.trans g6).trans g7).trans g8) ?_
    have eL : loopOf (gOf r z) i j [(p', q')] = if freeIn i j [(p', q')] > 0 then (gOf r z).L 1 + freeIn i j [(p', q')] * (gOf r z).L 2 else (gOf r z).L 0 + (gOf r z).sw i j p' q' := rfl
    rw [eL, if_pos hb3]
    exact h8
  have hb3 := of_decide_eq_false hb3
  have hmem : (p', q') ∈ fo := straight_sub fo i j _ (by rw [hinn]; exact List.mem_cons_self)
  have b1 := hin _ hmem
  have b2 := hin _ hp
  refine sAsgG (gIxL (gV (((hi4.mono g5.ss).mono g6.ss).mono g7.ss)) gInt (atI_nat (j := 0) rfl)) g7.sh fun x8 S8 H8 g8 hx8 => gt2 hx8 g8.sh fun y1 y2 h1 h2 => ?_
  cases h1; cases h2
  have hR8 := hR.mono (((((((g1.ss.trans g2.ss).trans g3.ss).trans g4.ss).trans g5.ss).trans g6.ss).trans g7.ss).trans g8.ss)
  refine sAsg (gLcTD r.stacks eStk (fun t => decide (t.1 = both z i j) && decide (t.2.1 = both z p' q')) (fun t => .int t.2.2) (gRul4 (gRul hR8)) (Nat.le_trans ok.ns (by decide)) fun t ht u S9 e hu => turnN rfl ?_ fun _ => gIxT (gV hu) gInt (atI_nat (j := 2) rfl)) g8.sh fun mv S9 H9 g9 hm => ?_
  · have hs := ok.so t ht
    refine gTest (gEqD (d := .tuple [.str t.1, .str t.2.1]) (GD.is (gSlT (gV hu) goNo (goPart gInt)) rfl) (eTup (gaCons (gBoth (gV (.str z)) (gV (.int i)) (gV (.str z)) (gV (.int j)) zk.le (by omega) (by omega)) (gaCons (gBoth (gV (.str z)) (gV (.int p')) (gV (.str z)) (gV (.int q')) zk.le (by omega) (by omega)) gaNil))) (sh_ss hs.1 hs.2) (sh_ss (both_ok zk.ok _ _) (both_ok zk.ok _ _)) eqv_ss)
  · have e2 : (r.stacks.filter fun t => decide (t.1 = both z i j) && decide (t.2.1 = both z p' q')).map (fun t => PyData.int t.2.2) = ((r.stacks.filter fun t => decide (t.1 = both z i j) && decide (t.2.1 = both z p' q')).map (·.2.2)).map .int := by rw [List.map_map]; rfl
    rw [e2] at hm
    refine sRet (eTup (gaCons gStr (gaCons gInt (gaCons (gAddI (gLoop (n := 0) (gV ((ht6.mono g7.ss).mono (g8.ss.trans g9.ss))) ok) (gSum (gV hm))) gaNil)))) g9.sh fun v' S10 H10 g10 h10 => qq S10 H10 v' "stacked" 0 (((((g5.trans g6).trans g7).trans g8).trans g9).trans g10) ?_
    rw [stkW_sum ok] at h10
    have eL : loopOf (gOf r z) i j [(p', q')] = if freeIn i j [(p', q')] > 0 then (gOf r z).L 1 + freeIn i j [(p', q')] * (gOf r z).L 2 else (gOf r z).L 0 + (gOf r z).sw i j p' q' := rfl
    rw [eL, if_neg hb3]
    exact h10
end
end PF
-- part PfL3
set_option Elab.async false
set_option linter.all false
set_option maxRecDepth 100000
set_option maxHeartbeats 4000000
namespace PF
open PySem PySem.Spec PyProof.Rows L2
theorem sc_law_shut : FnScope ["_law_given", "_law_writ_here", "_law_pairs_so", "_law_worths_so", "_law_found", "_law_i", "_law_j"] ["_law_given", "_law_writ_here", "_law_pairs_so"] (defScope s_law_shut) := ⟨rfl, rfl, rfl, by decide +kernel, rfl, by decide +kernel, by decide +kernel⟩
theorem sc_law_whole : FnScope ["_law_given", "_law_writ_here", "_law_pairs_so", "_law_outer_so"] ["_law_given", "_law_writ_here", "_law_pairs_so"] (defScope s_law_whole) := ⟨rfl, rfl, rfl, by decide +kernel, rfl, by decide +kernel, by decide +kernel⟩
theorem sc_law_come : FnScope ["_law_known", "_law_own", "_law_keys_here", "_law_key"] ["_law_known", "_law_own", "_law_keys_here"] (defScope s_law_come) := ⟨rfl, rfl, rfl, by decide +kernel, rfl, by decide +kernel, by decide +kernel⟩
theorem shutOn_snoc (g : G) (f : List Pr) : ∀ (l : List Pr) (p : Pr), shutOn g f (l ++ [p]) = shutOn g f l + (g.pw p.1 p.2 + loopW g f p)
  | [], p => by simp [shutOn]
  | a :: l, p => by
    rw [List.cons_append, shutOn, shutOn_snoc g f l p, shutOn]
    omega
section
variable {P : Program} {w : World} {K : PySem.W.Frag} {mg : Str → Option Value} {base : Heap} {S : Hp} {σ : L2.St} {ta tb : TE}
theorem qAsg {H : Hp} {te : TE} {i : Nat} {tz : TS} {D : Ends} {R : Hp → V → Prop} (h : Gv te σ S R) (sS : Same S H) (q : ∀ v S' H', Gr [] S H S' H' → R S' v → tz D (σ.set i (some v)) H') : tSeq (tAsg te (gName i)) tz D σ H := sAsg (D := { D with nx := tz D }) h sS q
/-- what is asked of a list of pairs -/
structure PrOk (g : G) (fo : List Pr) : Prop where
  ri : Rising fo
  le : fo.length ≤ 12
  inn : ∀ a ∈ fo, 0 ≤ a.1 ∧ a.1 < g.n ∧ 0 ≤ a.2 ∧ a.2 < g.n
  fit : ∀ a ∈ fo, g.fits a.1 a.2 = true
theorem PrOk.filter {g : G} {fo : List Pr} (h : PrOk g fo) (p : Pr → Bool) : PrOk g (fo.filter p) :=
  ⟨h.ri.sublist List.filter_sublist, Nat.le_trans (List.length_filter_le _ _) h.le, fun a ha => h.inn a (List.mem_filter.mp ha).1, fun a ha => h.fit a (List.mem_filter.mp ha).1⟩
def R_shut : Hp → List V → (Hp → V → Prop) → Prop := fun S vs Post => ∃ (v fv : V) (r : Rl) (z : Str) (fo : List Pr), vs = [v, .str z, fv] ∧ RulesAt S v r ∧ RlOk r ∧ ZOk z ∧ DD S fv (eFo fo) ∧ PrOk (gOf r z) fo ∧ Post = fun S' x => DD S' x (.int (shutW (gOf r z) fo))
theorem pw_of {r : Rl} {z : Str} {i j : Int} (h : (gOf r z).fits i j = true) : valV (mergeK [] (pkv r)) (.inr (both z i j)) = some (.int ((gOf r z).pw i j)) := by
  have h : (decide (j - i > r.span) && (pwO r (both z i j)).isSome) = true := h
  rw [pwO_val]
  show _ = some (V.int ((pwO r (both z i j)).getD 0))
  cases e : pwO r (both z i j) with
  | none => rw [e] at h; simp at h
  | some x => rfl
theorem ok_law_shut {f : Addr} {fd : FuncData} {k : Nat} (F : Fun K "_law_shut" "_law_shut" s_law_shut f fd) (B : BI mg) (c_law_loop : Ok P w K mg base "_law_loop" ["_law_given", "_law_writ_here", "_law_pairs_so", "_law_pair_so"] 2 (spP R_loop)) (hk : 2 ≤ k) :
    FnOk P w K mg base CX0 (k + 1) f fd ["_law_given", "_law_writ_here", "_law_pairs_so"] (spP R_shut) := by
  refine okP F sc_law_shut (fun S vs Post h => by obtain ⟨v, fv, r, z, fo, rfl, _⟩ := h; rfl) fun cdv A outer s H S vs Post Q E hr sS h q => ?_
  obtain ⟨v, fv, r, z, fo, rfl, hR, ok, zk, hfv, hpr, rfl⟩ := h
  refine ⟨_, (pss_cons (ps_set (i := 3) sc_law_shut.nd rfl (by first | exact .inl rfl | exact .inr rfl) (pe_callTy (call_dictP' rfl) (by rfl) B.dict (by decide +kernel) (pa_cons (pe_ix (ix_seq : IxR _ (rIx K)) (pv 0) pe_int (fun _ _ => rfl)) pa_nil)))
      (pss_cons (ps_set (i := 4) sc_law_shut.nd rfl (by first | exact .inl rfl | exact .inr rfl) pe_int)
      (pss_cons (ps_for PassesOwn.never rfl (pi_list (pv 2)) (pg_tup (by rfl) (pgs_cons (pg_name (i := 5) sc_law_shut.nd rfl (by first | exact .inl rfl | exact .inr rfl)) (pgs_cons (pg_name (i := 6) sc_law_shut.nd rfl (by first | exact .inl rfl | exact .inr rfl)) pgs_nil))) (pss_cons (ps_set (i := 4) sc_law_shut.nd rfl (by first | exact .inl rfl | exact .inr rfl) (pe_op (op_add4 : OpR _ _ (rAdd4 K)) (pv 4) (pe_dget (hu_of hr) (pv 3) (pe_op (op_add4 : OpR _ _ (rAdd4 K)) (pe_ix (ix_seq : IxR _ (rIx K)) (pv 1) (pv 5) (fun _ _ => rfl)) (pe_ix (ix_seq : IxR _ (rIx K)) (pv 1) (pv 6) (fun _ _ => rfl))) (fun _ _ => rfl))))
      (pss_one (ps_set (i := 4) sc_law_shut.nd rfl (by first | exact .inl rfl | exact .inr rfl) (pe_op (op_add4 : OpR _ _ (rAdd4 K)) (pv 4) (pe_ix (ix_seq : IxR _ (rIx K)) (pe_ok c_law_loop (hr.mono (by omega)) (by rfl) (pa_cons (pv 0) (pa_cons (pv 1) (pa_cons (pv 2) (pa_cons (pe_tup (pa_cons (pv 5) (pa_cons (pv 6) pa_nil))) pa_nil))))) pe_int (fun _ _ => rfl)))))))
      (pss_one (ps_ret (pv 4)))))), ?_⟩
  refine sAsg (gDictP (gRul1 (gRul hR))) sS fun dv S1 H1 g1 hd => ?_
  refine qAsg gInt g1.sh fun x S2 H2 g2 hx => ?_
  cases hx
  refine fForL [] fo ePr (fun t σ' S' H' => ∃ e5 e6, σ' = [some v, some (.str z), some fv, some dv, some (.int (shutOn (gOf r z) fo (fo.take t))), e5, e6]) (gV (hfv.mono (g1.ss.trans g2.ss))) g2.sh (fun S3 H3 g3 => ⟨_, _, rfl⟩) (fun t p u σ' S' H' N hx g hu hI hN => ?_) fun σ' S' H' g hI => ?_
  · obtain ⟨e5, e6, rfl⟩ := hI
    obtain ⟨i, j⟩ := p
    have hin := List.mem_of_getElem? hx
    have b := hpr.inn _ hin
    have hf := hpr.fit _ hin
    have hn : (gOf r z).n = (z.length : Int) := rfl
    have sx := (g1.ss.trans g2.ss).trans g.ss
    refine gt2 hu g.sh fun x y h1 h2 => ?_
    cases h1; cases h2
    refine sAsg (gAddI (gV (.int _)) (gAtK (k := .inr (both z i j)) (gvI (mDK _) (mDK _ _ _ _ (g2.ss.trans g.ss) hd)) (gBoth (gV (.str z)) (gV (.int i)) (gV (.str z)) (gV (.int j)) zk.le (by omega) (by omega)) (pw_of hf) fun _ _ => .int _)) g.sh fun x3 S3 H3 g3 h3 => ?_
    cases h3
    refine sAsg (gAddI (gV (.int _)) (gOp (R := fun S' x => ∃ t fr, DD S' x (.tuple [.str t, .int fr, .int (loopW (gOf r z) fo (i, j))])) (gCall (RP := R_loop) ((gA4 (mR r) (mD (.str z)) (mD (eFo fo)) (gRul ((hR.mono sx).mono g3.ss)) (gV (.str z)) (gV ((hfv.mono sx).mono g3.ss)) (eTup (ds := [.int i, .int j]) (gaCons (gV (.int i)) (gaCons (gV (.int j)) gaNil)))).weak fun S5 vs a hv => by
        obtain ⟨x1, x2, x3, x4, rfl, hx1, hx2, hx3, hx4⟩ := hv
        cases hx2
        exact ⟨x1, x3, x4, r, z, fo, (i, j), rfl, hx1, ok, zk, hx3, hx4, hpr.ri, hpr.le, hpr.inn, hin, rfl⟩)) fun S5 x a hx => gInt.weak fun S6 y a2 hy => by
        cases hy
        obtain ⟨t', fr, hx⟩ := hx
        obtain ⟨pp, xs, rfl, e1, e2⟩ := (hx.mono a2).tupE
        obtain ⟨x1, e3, e4⟩ := e2.atI (i := 2) (atI_nat (j := 2) rfl)
        exact fun S7 H7 a7 b7 Q k => .inr (.inl ⟨pp, xs, 2, x1, rfl, rfl, SqT.of (b7 _ _ (a7 _ _ e1)), e3, k _ S7 H7 (Gr.refl b7) (e4.mono a7)⟩))) g3.sh fun x4 S4 H4 g4 h4 => ?_
    cases h4
    have ee : shutOn (gOf r z) fo (fo.take (t + 1)) = shutOn (gOf r z) fo (fo.take t) + (gOf r z).pw i j + loopW (gOf r z) fo (i, j) := by
      rw [List.take_add_one, hx]
      show shutOn (gOf r z) fo (fo.take t ++ [(i, j)]) = _
      rw [shutOn_snoc, ← Int.add_assoc]
    refine hN _ S4 _ (g3.trans g4) ⟨some (.int i), some (.int j), ?_⟩
    rw [ee]
    rfl
  · obtain ⟨e5, e6, rfl⟩ := hI
    refine sRet (gV (.int _)) g.sh fun v' S5 H5 g5 h5 => q v' S5 H5 ((g1.trans g2).trans (g.trans g5)) ?_
    rw [List.take_length] at h5
    exact h5
theorem callShut {r : Rl} {z : Str} {fo : List Pr} {t1 t2 t3 : TE} (h1 : Gv t1 σ S fun S' x => RulesAt S' x r) (h2 : GD t2 σ S (.str z)) (h3 : GD t3 σ S (eFo fo)) (ok : RlOk r) (zk : ZOk z) (hp : PrOk (gOf r z) fo) : GD (tCall (spP R_shut) [] E0 (tCons t1 (tCons t2 (tCons t3 tNil)))) σ S (.int (shutW (gOf r z) fo)) :=
  gCall (RP := R_shut) ((gA3 (mR r) (mD (.str z)) h1 h2 h3).weak fun S2 vs a hv => by
    obtain ⟨x1, x2, x3, rfl, hx1, hx2, hx3⟩ := hv
    cases hx2
    exact ⟨x1, x3, r, z, fo, rfl, hx1, ok, zk, hx3, hp, rfl⟩)
def R_whole : Hp → List V → (Hp → V → Prop) → Prop := fun S vs Post => ∃ (v fv : V) (r : Rl) (z : Str) (fo : List Pr), vs = [v, .str z, fv] ∧ RulesAt S v r ∧ RlOk r ∧ ZOk z ∧ DD S fv (eFo fo) ∧ PrOk (gOf r z) fo ∧ Post = fun S' x => DD S' x (.int (wholeW (gOf r z) fo))
theorem ok_law_whole {f : Addr} {fd : FuncData} {k : Nat} (F : Fun K "_law_whole" "_law_whole" s_law_whole f fd) (B : BI mg) (c_law_straight : Ok P w K mg base "_law_straight" ["_law_pairs_so", "_law_low", "_law_high"] 1 (spP R_straight)) (c_law_shut : Ok P w K mg base "_law_shut" ["_law_given", "_law_writ_here", "_law_pairs_so"] 3 (spP R_shut)) (hk : 3 ≤ k) :
    FnOk P w K mg base CX0 (k + 1) f fd ["_law_given", "_law_writ_here", "_law_pairs_so"] (spP R_whole) := by
  refine okP F sc_law_whole (fun S vs Post h => by obtain ⟨v, fv, r, z, fo, rfl, _⟩ := h; rfl) fun cdv A outer s H S vs Post Q E hr sS h q => ?_
  obtain ⟨v, fv, r, z, fo, rfl, hR, ok, zk, hfv, hpr, rfl⟩ := h
  refine ⟨_, (pss_cons (ps_set (i := 3) sc_law_whole.nd rfl (by first | exact .inl rfl | exact .inr rfl) (pe_ok c_law_straight (hr.mono (by omega)) (by rfl) (pa_cons (pv 2) (pa_cons (pe_un un_neg pe_int) (pa_cons (pe_callB (call_lenA : CallR _ _ (rLenA K)) (by rfl) B.len (by decide +kernel) (pa_cons (pv 1) pa_nil)) pa_nil)))))
      (pss_one (ps_ret (pe_op (op_add4 : OpR _ _ (rAdd4 K)) (pe_ok c_law_shut (hr.mono (by omega)) (by rfl) (pa_cons (pv 0) (pa_cons (pv 1) (pa_cons (pv 2) pa_nil)))) (pe_op op_mul (pe_ix (ix_seq : IxR _ (rIx K)) (pe_ix (ix_seq : IxR _ (rIx K)) (pv 0) pe_int (fun _ _ => rfl)) pe_int (fun _ _ => rfl)) (pe_callB (call_lenA : CallR _ _ (rLenA K)) (by rfl) B.len (by decide +kernel) (pa_cons (pv 3) pa_nil))))))), ?_⟩
  refine sAsg (callStraight (gV hfv) (gNeg gInt) (gLenS (gV (.str z)) (Nat.le_trans zk.le (by decide))) hpr.ri (Nat.le_trans hpr.le (by decide))) sS fun ov S1 H1 g1 ho => ?_
  refine sRet (gAddI (callShut (gRul (hR.mono g1.ss)) (gV (.str z)) (gV (hfv.mono g1.ss)) ok zk hpr) (gMul (gLoop (n := 8) (gRul3 (gRul (hR.mono g1.ss))) ok) (gLenL (gV ho)) (.inl ?_))) g1.sh fun v' S5 H5 g5 h5 => q v' S5 H5 (g1.trans g5) ?_
  · have := ok.lo' 8
    exact ⟨by omega, by omega⟩
  · rw [List.length_map] at h5
    exact h5
theorem callWhole {r : Rl} {z : Str} {fo : List Pr} {t1 t2 t3 : TE} (h1 : Gv t1 σ S fun S' x => RulesAt S' x r) (h2 : GD t2 σ S (.str z)) (h3 : GD t3 σ S (eFo fo)) (ok : RlOk r) (zk : ZOk z) (hp : PrOk (gOf r z) fo) : GD (tCall (spP R_whole) [] E0 (tCons t1 (tCons t2 (tCons t3 tNil)))) σ S (.int (wholeW (gOf r z) fo)) :=
  gCall (RP := R_whole) ((gA3 (mR r) (mD (.str z)) h1 h2 h3).weak fun S2 vs a hv => by
    obtain ⟨x1, x2, x3, rfl, hx1, hx2, hx3⟩ := hv
    cases hx2
    exact ⟨x1, x3, r, z, fo, rfl, hx1, ok, zk, hx3, hp, rfl⟩)
def R_lcome : Hp → List V → (Hp → V → Prop) → Prop := fun S vs Post => ∃ (dv kv : V) (own : Int) (ks : List Ky) (kvs : Kvs), vs = [dv, .int own, kv] ∧ IsDT kvs S dv ∧ TabOk kvs ∧ DD S kv (.list (ks.map eKy)) ∧ Post = fun S' x => ∃ o, DD S' x (oD o)
theorem val_of_tab {kvs : Kvs} (h : TabOk kvs) {k : Ky} {x : Int} (e : tabV kvs k = some x) : valV kvs (kyL k) = some (.int x) := by
  unfold tabV at e
  cases h2 : valV kvs (kyL k) with
  | none => rw [h2] at e; cases e
  | some v =>
    rw [h2] at e
    cases v <;> cases e
    rfl
theorem ok_law_come {f : Addr} {fd : FuncData} {k : Nat} (F : Fun K "_law_come" "_law_come" s_law_come f fd) (B : BI mg) : FnOk P w K mg base CX0 (k + 1) f fd ["_law_known", "_law_own", "_law_keys_here"] (spP R_lcome) := by
  refine okP F sc_law_come (fun S vs Post h => by obtain ⟨v, fv, own, ks, kvs, rfl, _⟩ := h; rfl) fun cdv A outer s H S vs Post Q E hr sS h q => ?_
  obtain ⟨dv, kv, own, ks, kvs, rfl, hd, ok, hk, rfl⟩ := h
  refine ⟨_, (pss_cons (ps_for PassesOwn.never rfl (pi_list (pv 2)) (pg_name (i := 3) sc_law_come.nd rfl (by first | exact .inl rfl | exact .inr rfl)) (pss_cons (ps_if (pt_cmp (pc_isN (pe_dget2 (hu_of hr) (pv 0) (pv 3) pe_non ⟨rfl, rfl, rfl, rfl⟩)) rfl) (pss_one (ps_ret pe_non)) pss_nil)
      (pss_one (ps_set (i := 1) sc_law_come.nd rfl (by first | exact .inl rfl | exact .inr rfl) (pe_op (op_add4 : OpR _ _ (rAdd4 K)) (pv 1) (pe_dget (hu_of hr) (pv 0) (pv 3) (fun _ _ => rfl)))))))
      (pss_one (ps_ret (pv 1)))), ?_⟩
  refine fForL [] ks eKy (fun t σ' S' H' => ∃ y e3, σ' = [some dv, some (.int y), some kv, e3]) (gV hk) sS (fun S3 H3 g3 => ⟨_, _, rfl⟩) (fun t key u σ' S' H' N hx g hu hI hN => ?_) fun σ' S' H' g hI => ?_
  · obtain ⟨y, e3, rfl⟩ := hI
    have hd' := mDT _ _ _ _ g.ss hd
    refine sIf (gB (gIsN (d := oD (tabV kvs key)) (gGetT2 (k := kyL key) (gvI (mDT _) hd') (gV hu) gNon fun S' _ => by rw [tabV_get ok]; exact DD_oD _))) g.sh (fun hb S3 H3 g3 => sRet gNon g3.sh fun v' S5 H5 g5 h5 => q v' S5 H5 (g.trans (g3.trans g5)) ⟨none, h5⟩) fun hb S3 H3 g3 => ?_
    rw [noneD_oD] at hb
    obtain ⟨x, hx2⟩ : ∃ x, tabV kvs key = some x := by
      cases e : tabV kvs key with
      | none => rw [e] at hb; cases hb
      | some x => exact ⟨x, rfl⟩
    refine sAsg (gAddI (gV (.int y)) (gAtT (k := kyL key) (gvI (mDT _) (mDT _ _ _ _ g3.ss hd')) (gV (hu.mono g3.ss)) (val_of_tab ok hx2) fun _ _ => .int x)) g3.sh fun x4 S4 H4 g4 h4 => ?_
    cases h4
    exact hN _ S4 _ (g3.trans g4) ⟨_, _, rfl⟩
  · obtain ⟨y, e3, rfl⟩ := hI
    exact sRet (gV (.int y)) g.sh fun v' S5 H5 g5 h5 => q v' S5 H5 (g.trans g5) ⟨some y, h5⟩
end
end PF
-- part PfL4
set_option Elab.async false
set_option linter.all false
set_option maxRecDepth 100000
set_option maxHeartbeats 4000000
namespace PF
open PySem PySem.Spec PyProof.Rows L2
theorem sc_law_shut_ways : FnScope ["_law_given", "_law_writ_here", "_law_i", "_law_j", "_law_told", "_law_found", "_law_p", "_law_q", "_law_own", "_law_texts", "_law_row", "_law_worth_here", "_law_keys_here"] ["_law_given", "_law_writ_here", "_law_i", "_law_j"] (defScope s_law_shut_ways) := ⟨rfl, rfl, rfl, by decide +kernel, rfl, by decide +kernel, by decide +kernel⟩
section
variable {P : Program} {w : World} {K : PySem.W.Frag} {mg : Str → Option Value} {base : Heap} {S : Hp} {σ : L2.St} {ta tb : TE}
def Ways (S : Hp) (x : V) : Prop := ∃ ws : List Way, ws.length ≤ 2000 ∧ DD S x (.list (ws.map eWay))
def R_lsw : Hp → List V → (Hp → V → Prop) → Prop := fun S vs Post => ∃ (v : V) (r : Rl) (z : Str) (i j : Int), vs = [v, .str z, .int i, .int j] ∧ RulesAt S v r ∧ RlOk r ∧ ZOk z ∧ (0 ≤ i ∧ i < j ∧ j < (z.length : Int)) ∧ Post = Ways
theorem ok_law_shut_ways {f : Addr} {fd : FuncData} {k : Nat} (F : Fun K "_law_shut_ways" "_law_shut_ways" s_law_shut_ways f fd) (B : BI mg) (c_law_fits : Ok P w K mg base "_law_fits" ["_law_given", "_law_writ_here", "_law_i", "_law_j"] 1 (spP R_fits)) (hk : 1 ≤ k) :
    FnOk P w K mg base CX0 (k + 1) f fd ["_law_given", "_law_writ_here", "_law_i", "_law_j"] (spP R_lsw) := by
  refine okP F sc_law_shut_ways (fun S vs Post h => by obtain ⟨v, r, z, i, j, rfl, _⟩ := h; rfl) fun cdv A outer s H S vs Post Q E hr sS h q => ?_
  obtain ⟨v, r, z, i, j, rfl, hR, ok, zk, hij, rfl⟩ := h
  refine ⟨_, (pss_cons (ps_if (pt_not (pt_val (pe_ok c_law_fits (hr.mono (by omega)) (by rfl) (pa_cons (pv 0) (pa_cons (pv 1) (pa_cons (pv 2) (pa_cons (pv 3) pa_nil))))))) (pss_one (ps_ret (pe_lst pa_nil))) pss_nil)
      (pss_cons (ps_set (i := 4) sc_law_shut_ways.nd rfl (by first | exact .inl rfl | exact .inr rfl) (pe_ix (ix_seq : IxR _ (rIx K)) (pv 0) pe_int (fun _ _ => rfl)))
      (pss_cons (ps_set (i := 5) sc_law_shut_ways.nd rfl (by first | exact .inl rfl | exact .inr rfl) (pe_lst (pa_cons (pe_tup (pa_cons (pe_op (op_add4 : OpR _ _ (rAdd4 K)) (pe_ix (ix_seq : IxR _ (rIx K)) (pv 4) pe_int (fun _ _ => rfl)) (pe_op op_mul (pe_op op_sub (pe_op op_sub (pv 3) (pv 2)) pe_int) (pe_ix (ix_seq : IxR _ (rIx K)) (pv 4) pe_int (fun _ _ => rfl)))) (pa_cons (pe_lst pa_nil) pa_nil))) (pa_cons (pe_tup (pa_cons (pe_ix (ix_seq : IxR _ (rIx K)) (pv 4) pe_int (fun _ _ => rfl)) (pa_cons (pe_lst (pa_cons (pe_tup (pa_cons pe_str (pa_cons (pe_op (op_add4 : OpR _ _ (rAdd4 K)) (pv 2) pe_int) (pa_cons (pe_op op_sub (pv 3) pe_int) pa_nil)))) pa_nil)) pa_nil))) pa_nil))))
      (pss_cons (ps_for PassesOwn.never rfl (pi_range2 (by rfl) B.range (pa_cons (pe_op (op_add4 : OpR _ _ (rAdd4 K)) (pv 2) pe_int) (pa_cons (pv 3) pa_nil))) (pg_name (i := 6) sc_law_shut_ways.nd rfl (by first | exact .inl rfl | exact .inr rfl)) (pss_one (ps_for PassesOwn.never rfl (pi_range2 (by rfl) B.range (pa_cons (pe_op (op_add4 : OpR _ _ (rAdd4 K)) (pv 6) pe_int) (pa_cons (pv 3) pa_nil))) (pg_name (i := 7) sc_law_shut_ways.nd rfl (by first | exact .inl rfl | exact .inr rfl)) (pss_cons (ps_set (i := 8) sc_law_shut_ways.nd rfl (by first | exact .inl rfl | exact .inr rfl) (pe_op (op_add4 : OpR _ _ (rAdd4 K)) (pe_ix (ix_seq : IxR _ (rIx K)) (pv 4) pe_int (fun _ _ => rfl)) (pe_op op_mul (pe_op op_sub (pe_op op_sub (pe_op (op_add4 : OpR _ _ (rAdd4 K)) (pe_op op_sub (pv 6) (pv 2)) (pv 3)) (pv 7)) pe_int) (pe_ix (ix_seq : IxR _ (rIx K)) (pv 4) pe_int (fun _ _ => rfl)))))
      (pss_cons (ps_if (pt_cmpR (op_eqD hr.units : OpR _ _ (rEqD K)) (pe_op op_sub (pe_op (op_add4 : OpR _ _ (rAdd4 K)) (pe_op op_sub (pv 6) (pv 2)) (pv 3)) (pv 7)) pe_int (nomark _)) (pss_cons (ps_set (i := 9) sc_law_shut_ways.nd rfl (by first | exact .inl rfl | exact .inr rfl) (pe_tup (pa_cons (pe_op (op_add4 : OpR _ _ (rAdd4 K)) (pe_ix (ix_seq : IxR _ (rIx K)) (pv 1) (pv 2) (fun _ _ => rfl)) (pe_ix (ix_seq : IxR _ (rIx K)) (pv 1) (pv 3) (fun _ _ => rfl))) (pa_cons (pe_op (op_add4 : OpR _ _ (rAdd4 K)) (pe_ix (ix_seq : IxR _ (rIx K)) (pv 1) (pv 6) (fun _ _ => rfl)) (pe_ix (ix_seq : IxR _ (rIx K)) (pv 1) (pv 7) (fun _ _ => rfl))) pa_nil))))
      (pss_one (ps_set (i := 8) sc_law_shut_ways.nd rfl (by first | exact .inl rfl | exact .inr rfl) (pe_op (op_add4 : OpR _ _ (rAdd4 K)) (pe_ix (ix_seq : IxR _ (rIx K)) (pv 4) pe_int (fun _ _ => rfl)) (pe_callB (cr_sum rfl : CallR _ _ (rSum K)) (by rfl) B.sum (by decide +kernel) (pa_cons (pe_lc (own := [("_law_row", 10)]) (g := (gName 10)) (by rfl) sc_law_shut_ways.nd (pi_tup (pe_ix (ix_seq : IxR _ (rIx K)) (pv 0) pe_int (fun _ _ => rfl))) (blkOk_by (own := [("_law_row", 10)]) (N := ["_law_given", "_law_writ_here", "_law_i", "_law_j", "_law_told", "_law_found", "_law_p", "_law_q", "_law_own", "_law_texts", "_law_row", "_law_worth_here", "_law_keys_here"]) (sc := defScope s_law_shut_ways) (by decide +kernel)) (fun _ _ _ _ _ => (pg_name (i := 10) sc_law_shut_ways.nd rfl (by first | exact .inl rfl | exact .inr rfl))) (fun _ _ _ _ _ => (pts_one (pt_cmpR (op_eqD hr.units : OpR _ _ (rEqD K)) (pe_slice (sl_2 : SlR _ (rSl2 K)) (pv 10) po_none (po_some pe_int)) (pv 9) (nomark _)))) (fun _ _ _ _ _ => (pe_ix (ix_seq : IxR _ (rIx K)) (pv 10) pe_int (fun _ _ => rfl)))) pa_nil)))))) pss_nil)
      (pss_one (ps_expr (pe_bm PySem.F.plainAttrs_list PySem.F.slot_list_append PySem.F.type_list_append mt_append (pv 5) (pa_cons (pe_tup (pa_cons (pv 8) (pa_cons (pe_lst (pa_cons (pe_tup (pa_cons pe_str (pa_cons (pv 6) (pa_cons (pv 7) pa_nil)))) pa_nil)) pa_nil))) pa_nil)))))))))
      (pss_cons (ps_set (i := 11) sc_law_shut_ways.nd rfl (by first | exact .inl rfl | exact .inr rfl) (pe_dget (hu_of hr) (pe_callTy (call_dictP' rfl) (by rfl) B.dict (by decide +kernel) (pa_cons (pe_ix (ix_seq : IxR _ (rIx K)) (pv 0) pe_int (fun _ _ => rfl)) pa_nil)) (pe_op (op_add4 : OpR _ _ (rAdd4 K)) (pe_ix (ix_seq : IxR _ (rIx K)) (pv 1) (pv 2) (fun _ _ => rfl)) (pe_ix (ix_seq : IxR _ (rIx K)) (pv 1) (pv 3) (fun _ _ => rfl))) (fun _ _ => rfl)))
      (pss_one (ps_ret (pe_lc (own := [("_law_own", 8), ("_law_keys_here", 12)]) (g := (gTup K 2 (gCons (gName 8) (gCons (gName 12) gNil)))) (by rfl) sc_law_shut_ways.nd (pi_list (pv 5)) (blkOk_by (own := [("_law_own", 8), ("_law_keys_here", 12)]) (N := ["_law_given", "_law_writ_here", "_law_i", "_law_j", "_law_told", "_law_found", "_law_p", "_law_q", "_law_own", "_law_texts", "_law_row", "_law_worth_here", "_law_keys_here"]) (sc := defScope s_law_shut_ways) (by decide +kernel)) (fun _ _ _ _ _ => (pg_tup (by rfl) (pgs_cons (pg_name (i := 8) sc_law_shut_ways.nd rfl (by first | exact .inl rfl | exact .inr rfl)) (pgs_cons (pg_name (i := 12) sc_law_shut_ways.nd rfl (by first | exact .inl rfl | exact .inr rfl)) pgs_nil)))) (fun _ _ _ _ _ => pts_nil) (fun _ _ _ _ _ => (pe_tup (pa_cons (pe_op (op_add4 : OpR _ _ (rAdd4 K)) (pv 11) (pv 8)) (pa_cons (pv 12) pa_nil)))))))))))), ?_⟩
  have hn : (z.length : Int) ≤ 12 := by have := zk.le; omega
  refine sIf (b := !(gOf r z).fits i j) (gNot (gB (callFits (gRul hR) (gV (.str z)) (gV (.int i)) (gV (.int j)) zk.le (by omega) (by omega)))) sS (fun hb S1 H1 g1 => ?_) fun hb S1 H1 g1 => ?_
  · exact sRet (eLst gaNil) g1.sh fun v' S5 H5 g5 h5 => q v' S5 H5 (g1.trans g5) ⟨[], Nat.zero_le _, h5⟩
  have hf : (gOf r z).fits i j = true := by
    cases h : (gOf r z).fits i j with
    | true => rfl
    | false => rw [h] at hb; exact absurd hb (by decide)
  have hR1 := hR.mono g1.ss
  refine sAsg (gRul3 (gRul hR1)) g1.sh fun tv S2 H2 g2 ht => ?_
  refine sAsgP (gaCons (eTup (gaCons (gAddI (gLoop (n := 6) (gV ht) ok) (gMul (eSub (eSub (gV (.int j)) (gV (.int i))) gInt) (gLoop (n := 7) (gV ht) ok) (cm_loop ok _ 7))) (gaCons (eLst gaNil) gaNil)))
    (gaCons (eTup (gaCons (gLoop (n := 3) (gV ht) ok) (gaCons (eLst (gaCons (eTup (gaCons gStr (gaCons (gAddI (gV (.int i)) gInt) (gaCons (eSub (gV (.int j)) gInt) gaNil)))) gaNil)) gaNil))) gaNil)) g2.sh fun o xs0 S3 H3 g3 o0 n3 e3 d3 => ?_
  have ho : H o = none := (g1.trans g2).same.free o0
  refine fForR2 [o] (fun m σ' S' H' => ∃ e6 e7 e8 e9 e10 xs, σ' = [some v, some (.str z), some (.int i), some (.int j), some tv, some (.ref o), e6, e7, e8, e9, e10, none, none] ∧ S' o = none ∧ H' o = some (.lst xs) ∧ ∃ ws : List Way, ws.length ≤ 2 + 12 * m ∧ DDs S' xs (ws.map eWay))
    (gaCons (gAddI (gV (.int i)) gInt) (gaCons (gV (.int j)) gaNil)) (sm_of (by omega)) (sm_of (by omega)) g3.sh (fun S4 H4 g4 => ⟨_, _, _, _, _, xs0, rfl, g4.hide n3 e3, g4.same _ _ e3, [(_, []), (_, [(Kd.two, i + 1, j - 1)])], Nat.le_refl _, d3.mono g4.ss⟩) (fun m σ' S' H' N hm g hI hN => ?_) fun σ' S' H' g hI => ?_
  · obtain ⟨e6, e7, e8, e9, e10, xs, rfl, n, eo, ws, wl, hd⟩ := hI
    generalize hp : i + 1 + (m : Int) = p at *
    refine fForR2 [o] (fun m2 σ2 S'' H'' => ∃ e7 e8 e9 e10 ys, σ2 = [some v, some (.str z), some (.int i), some (.int j), some tv, some (.ref o), some (.int p), e7, e8, e9, e10, none, none] ∧ S'' o = none ∧ H'' o = some (.lst ys) ∧ ∃ us : List Way, us.length ≤ ws.length + m2 ∧ DDs S'' ys (us.map eWay))
      (gaCons (gAddI (gV (.int p)) gInt) (gaCons (gV (.int j)) gaNil)) (sm_of (by omega)) (sm_of (by omega)) g.sh (fun S4 H4 g4 => ⟨_, _, _, _, xs, rfl, g4.hide n eo, g4.same _ _ eo, ws, Nat.le_refl _, hd.mono g4.ss⟩) (fun m2 σ2 S'' H'' N2 hm2 g' hI2 hN2 => ?_) fun σ2 S'' H'' g' hI2 => ?_
    · obtain ⟨e7, e8, e9, e10, ys, rfl, n', eo', us, ul, hd'⟩ := hI2
      generalize hq : p + 1 + (m2 : Int) = q' at *
      have ht' := ht.mono ((g3.ss.trans g.ss).trans g'.ss)
      have hR' := hR1.mono (((g2.ss.trans g3.ss).trans g.ss).trans g'.ss)
      refine sAsg (gAddI (gLoop (n := 1) (gV ht') ok) (gMul (eSub (eSub (gAddI (eSub (gV (.int p)) (gV (.int i))) (gV (.int j))) (gV (.int q'))) gInt) (gLoop (n := 2) (gV ht') ok) (cm_loop ok _ 2))) g'.sh fun wv S4 H4 g4 hw => ?_
      cases hw
      have n4 := g4.hide n' eo'
      have eo4 := g4.same _ _ eo'
      have fin : ∀ (S5 H5 : Hp) (u : Int) (e9 : Option V), Gr [] S4 H4 S5 H5 → tDrop (tBM K "list" rAppend (tVar 5) (tCons (tTup (tCons (tVar 8) (tCons (tLst (tCons (tTup (tCons (tC (.str "shut")) (tCons (tVar 6) (tCons (tVar 7) tNil)))) tNil)) tNil))) tNil)) { nx := N2, rt := Q, ct := N2, bk := N }
          [some v, some (.str z), some (.int i), some (.int j), some tv, some (.ref o), some (.int p), some (.int q'), some (.int u), e9, e10, none, none] H5 := by
        intro S5 H5 u e9 g5
        refine sApp (gvI (mV _) rfl) (eTup (gaCons (gV (.int u)) (gaCons (eLst (gaCons (eTup (gaCons gStr (gaCons (gV (.int p)) (gaCons (gV (.int q')) gaNil)))) gaNil)) gaNil))) g5.sh (g5.hide n4 eo4) (g5.same _ _ eo4) ?_ fun y S6 H6 _ g6 hy n6 => ?_
        · have l2 := hd'.len
          rw [List.length_map] at l2
          exact Nat.lt_of_le_of_lt (show _ ≤ 2000 by omega) (by decide)
        · refine hN2 _ S6 _ ((g4.trans g5).up0.trans g6) ⟨_, _, _, _, _, rfl, n6, upd_same, us ++ [(u, [(Kd.shut, p, q')])], by rw [List.length_append, List.length_singleton]; omega, ?_⟩
          exact (hd'.mono ((g4.trans g5).ss.trans g6.ss)).flat (.cons hy .nil)
      refine sIf (gTest (gEqI (eSub (gAddI (eSub (gV (.int p)) (gV (.int i))) (gV (.int j))) (gV (.int q'))) gInt)) g4.sh (fun hb S5 H5 g5 => ?_) fun hb S5 H5 g5 => fin S5 H5 _ _ g5
      have hR5 := hR'.mono (g4.ss.trans g5.ss)
      have ht5 := ht'.mono (g4.ss.trans g5.ss)
      refine sAsg (eTup (ds := [.str (both z i j), .str (both z p q')]) (gaCons (gBoth (gV (.str z)) (gV (.int i)) (gV (.str z)) (gV (.int j)) zk.le (by omega) (by omega)) (gaCons (gBoth (gV (.str z)) (gV (.int p)) (gV (.str z)) (gV (.int q')) zk.le (by omega) (by omega)) gaNil))) g5.sh fun xv S6 H6 g6 hx => ?_
      refine sAsg (gAddI (gLoop (n := 0) (gV (ht5.mono g6.ss)) ok) (gSum (ns := (r.stacks.filter fun t => decide (t.1 = both z i j) && decide (t.2.1 = both z p q')).map (·.2.2)) (GD.is (gLcTD r.stacks eStk (fun t => decide (t.1 = both z i j) && decide (t.2.1 = both z p q')) (fun t => .int t.2.2) (gRul4 (gRul (hR5.mono g6.ss))) (Nat.le_trans ok.ns (by decide)) fun t ht u S9 e hu => turnN rfl
        (gTest (gEqD (d := .tuple [.str t.1, .str t.2.1]) (GD.is (gSlT (gV hu) goNo (goPart gInt)) rfl) (gV (hx.mono e)) (sh_ss (ok.so t ht).1 (ok.so t ht).2) (sh_ss (both_ok zk.ok _ _) (both_ok zk.ok _ _)) eqv_ss)) fun _ => gIxT (gV hu) gInt (atI_nat (j := 2) rfl)) (by rw [List.map_map]; rfl)))) g6.sh fun yv S7 H7 g7 hy => ?_
      cases hy
      exact fin S7 H7 _ _ ((g5.trans g6).trans g7)
    · obtain ⟨e7, e8, e9, e10, ys, rfl, n', eo', us, ul, hd'⟩ := hI2
      exact hN _ S'' _ g' ⟨_, _, _, _, _, _, rfl, n', eo', us, by omega, hd'⟩
  · obtain ⟨e6, e7, e8, e9, e10, xs, rfl, n, eo, ws, wl, hd⟩ := hI
    have G5 : Gr [] S H S' H' := Gr.over1 ((g1.trans g2).trans g3) g ho
    have G6 := G5.tell ho n eo
    have dl : DD (upd S' o (.lst xs)) (.ref o) (.list (ws.map eWay)) := .lst upd_same (hd.mono (same_upd' n))
    have hR6 := hR.mono G6.ss
    refine sAsg (gAtK (k := .inr (both z i j)) (gDictP (gRul1 (gRul hR6))) (gBoth (gV (.str z)) (gV (.int i)) (gV (.str z)) (gV (.int j)) zk.le (by omega) (by omega)) (pw_of hf) (R := fun S' x => DD S' x (.int ((gOf r z).pw i j))) fun _ _ => .int _) G6.sh fun pv S7 H7 g7 hp => ?_
    cases hp
    refine sRet (gLc1 ws eWay (fun (w : Way) => eWay ((gOf r z).pw i j + w.1, w.2)) (gV (dl.mono g7.ss)) ?_ fun x hx u S8 e hu => turnT2 hu fun a b ha hb => ⟨rfl, gYes, fun _ => ?_⟩) g7.sh fun v' S9 H9 g9 h9 => q v' S9 H9 (G6.trans (g7.trans g9)) ⟨ws.map fun (w : Way) => ((gOf r z).pw i j + w.1, w.2), by rw [List.length_map]; omega, by rw [List.map_map]; exact h9⟩
    · exact Nat.le_trans (show _ ≤ 2000 by omega) (by decide)
    · cases ha
      exact eTup (gaCons (gAddI (gV (.int _)) (gV (.int x.1))) (gaCons (gV hb) gaNil))
end
end PF
-- part PfL5
set_option Elab.async false
set_option linter.all false
set_option maxRecDepth 100000
set_option maxHeartbeats 4000000
namespace PF
open PySem PySem.Spec PyProof.Rows L2
theorem sc_law_ways : FnScope ["_law_given", "_law_writ_here", "_law_key", "_law_sort", "_law_i", "_law_j", "_law_told", "_law_found", "_law_k"] ["_law_given", "_law_writ_here", "_law_key"] (defScope s_law_ways) := ⟨rfl, rfl, rfl, by decide +kernel, rfl, by decide +kernel, by decide +kernel⟩
theorem sc_law_keys : FnScope ["_law_many", "_law_found", "_law_i", "_law_j"] ["_law_many"] (defScope s_law_keys) := ⟨rfl, rfl, rfl, by decide +kernel, rfl, by decide +kernel, by decide +kernel⟩
def rInt1 : List V → Hp → VK → Prop := fun xs H Q => (∃ n, xs = [.int n] ∧ Q (.int n) H) ∨ ∃ k, xs = [.bl k] ∧ Q (.int (b2i k)) H
theorem call_int1' {X : Cx} : CallR X (.type "int") rInt1 := call_int1
section
variable {P : Program} {w : World} {K : PySem.W.Frag} {mg : Str → Option Value} {base : Heap} {S : Hp} {σ : L2.St} {ta tb : TE}
theorem gIntB {b : Bool} (h : GD ta σ S (.bool b)) : GD (tCB rInt1 (tCons ta tNil)) σ S (.int (b2i b)) := gCB (ga1 h) fun S2 vs a hv S3 H a3 b3 Q k => by
  obtain ⟨v, rfl, hv⟩ := hv
  cases hv
  exact .inr ⟨_, rfl, k _ S3 H (Gr.refl b3) (.int _)⟩
def R_lways : Hp → List V → (Hp → V → Prop) → Prop := fun S vs Post => ∃ (v kv : V) (r : Rl) (z : Str) (key : Ky), vs = [v, .str z, kv] ∧ RulesAt S v r ∧ RlOk r ∧ ZOk z ∧ DD S kv (eKy key) ∧ IsKey (z.length : Int) key ∧ Post = Ways
theorem ok_law_ways {f : Addr} {fd : FuncData} {k : Nat} (F : Fun K "_law_ways" "_law_ways" s_law_ways f fd) (B : BI mg) (c_law_shut_ways : Ok P w K mg base "_law_shut_ways" ["_law_given", "_law_writ_here", "_law_i", "_law_j"] 2 (spP R_lsw)) (hk : 2 ≤ k) :
    FnOk P w K mg base CX0 (k + 1) f fd ["_law_given", "_law_writ_here", "_law_key"] (spP R_lways) := by
  refine okP F sc_law_ways (fun S vs Post h => by obtain ⟨v, kv, r, z, key, rfl, _⟩ := h; rfl) fun cdv A outer s H S vs Post Q E hr sS h q => ?_
  obtain ⟨v, kv, r, z, ⟨kd, i, j⟩, rfl, hR, ok, zk, hK, hI, rfl⟩ := h
  refine ⟨_, (pss_cons (ps_asg (pv 2) (pg_tup (by rfl) (pgs_cons (pg_name (i := 3) sc_law_ways.nd rfl (by first | exact .inl rfl | exact .inr rfl)) (pgs_cons (pg_name (i := 4) sc_law_ways.nd rfl (by first | exact .inl rfl | exact .inr rfl)) (pgs_cons (pg_name (i := 5) sc_law_ways.nd rfl (by first | exact .inl rfl | exact .inr rfl)) pgs_nil)))))
      (pss_cons (ps_set (i := 6) sc_law_ways.nd rfl (by first | exact .inl rfl | exact .inr rfl) (pe_ix (ix_seq : IxR _ (rIx K)) (pv 0) pe_int (fun _ _ => rfl)))
      (pss_cons (ps_if (pt_cmpR (op_eqD hr.units : OpR _ _ (rEqD K)) (pv 3) pe_str (nomark _)) (pss_one (ps_ret (pe_ok c_law_shut_ways (hr.mono (by omega)) (by rfl) (pa_cons (pv 0) (pa_cons (pv 1) (pa_cons (pv 4) (pa_cons (pv 5) pa_nil))))))) pss_nil)
      (pss_cons (ps_if (PW.pt (pw_and (pt_cmpR (op_eqD hr.units : OpR _ _ (rEqD K)) (pv 3) pe_str (nomark _)) (pw_and1 (pt_cmpR op_gt (pv 4) (pv 5) (nomark _))))) (pss_one (ps_ret (pe_lst (pa_cons (pe_tup (pa_cons pe_int (pa_cons (pe_lst pa_nil) pa_nil))) pa_nil)))) pss_nil)
      (pss_cons (ps_set (i := 7) sc_law_ways.nd rfl (by first | exact .inl rfl | exact .inr rfl) (pe_lst (pa_cons (pe_tup (pa_cons (pe_ix (ix_seq : IxR _ (rIx K)) (pe_lst (pa_cons (pe_ix (ix_seq : IxR _ (rIx K)) (pv 6) pe_int (fun _ _ => rfl)) (pa_cons pe_int pa_nil))) (pe_callTy (call_int1' : CallR _ _ rInt1) (by rfl) B.int (by decide +kernel) (pa_cons (pe_cmpR (op_eqD hr.units : OpR _ _ (rEqD K)) (pv 3) pe_str (nomark _)) pa_nil)) (fun _ _ => rfl)) (pa_cons (pe_lst (pa_cons (pe_tup (pa_cons (pv 3) (pa_cons (pe_op (op_add4 : OpR _ _ (rAdd4 K)) (pv 4) pe_int) (pa_cons (pv 5) pa_nil)))) pa_nil)) pa_nil))) pa_nil)))
      (pss_cons (ps_for PassesOwn.never rfl (pi_range2 (by rfl) B.range (pa_cons (pe_op (op_add4 : OpR _ _ (rAdd4 K)) (pv 4) pe_int) (pa_cons (pe_op (op_add4 : OpR _ _ (rAdd4 K)) (pv 5) pe_int) pa_nil))) (pg_name (i := 8) sc_law_ways.nd rfl (by first | exact .inl rfl | exact .inr rfl)) (pss_cons (ps_if (pt_cmpR (op_eqD hr.units : OpR _ _ (rEqD K)) (pv 3) pe_str (nomark _)) (pss_one (ps_expr (pe_bm PySem.F.plainAttrs_list PySem.F.slot_list_append PySem.F.type_list_append mt_append (pv 7) (pa_cons (pe_tup (pa_cons (pe_ix (ix_seq : IxR _ (rIx K)) (pv 6) pe_int (fun _ _ => rfl)) (pa_cons (pe_lst (pa_cons (pe_tup (pa_cons pe_str (pa_cons (pv 4) (pa_cons (pv 8) pa_nil)))) (pa_cons (pe_tup (pa_cons pe_str (pa_cons (pe_op (op_add4 : OpR _ _ (rAdd4 K)) (pv 8) pe_int) (pa_cons (pv 5) pa_nil)))) pa_nil))) pa_nil))) pa_nil)))) (pss_one (ps_expr (pe_bm PySem.F.plainAttrs_list PySem.F.slot_list_append PySem.F.type_list_append mt_append (pv 7) (pa_cons (pe_tup (pa_cons (pe_ix (ix_seq : IxR _ (rIx K)) (pv 6) pe_int (fun _ _ => rfl)) (pa_cons (pe_lst (pa_cons (pe_tup (pa_cons pe_str (pa_cons (pv 4) (pa_cons (pv 8) pa_nil)))) (pa_cons (pe_tup (pa_cons pe_str (pa_cons (pe_op (op_add4 : OpR _ _ (rAdd4 K)) (pv 8) pe_int) (pa_cons (pv 5) pa_nil)))) pa_nil))) pa_nil))) pa_nil)))))
      (pss_one (ps_if (pt_cmpR (op_eqD hr.units : OpR _ _ (rEqD K)) (pv 3) pe_str (nomark _)) (pss_one (ps_expr (pe_bm PySem.F.plainAttrs_list PySem.F.slot_list_append PySem.F.type_list_append mt_append (pv 7) (pa_cons (pe_tup (pa_cons (pe_op (op_add4 : OpR _ _ (rAdd4 K)) (pe_ix (ix_seq : IxR _ (rIx K)) (pv 6) pe_int (fun _ _ => rfl)) (pe_op op_mul (pe_op op_sub (pv 5) (pv 8)) (pe_ix (ix_seq : IxR _ (rIx K)) (pv 6) pe_int (fun _ _ => rfl)))) (pa_cons (pe_lst (pa_cons (pe_tup (pa_cons pe_str (pa_cons (pv 4) (pa_cons (pv 8) pa_nil)))) pa_nil)) pa_nil))) pa_nil)))) pss_nil))))
      (pss_one (ps_ret (pv 7))))))))), ?_⟩
  have hn : (z.length : Int) ≤ 12 := by have := zk.le; omega
  have hij : 0 ≤ i ∧ i ≤ 12 ∧ -1 ≤ j ∧ j ≤ 12 := by
    cases kd with
    | shut => have hI : 0 ≤ i ∧ i < j ∧ j < (z.length : Int) := hI; omega
    | one => have hI : 0 ≤ i ∧ i ≤ j ∧ j < (z.length : Int) := hI; omega
    | two => have hI : 0 ≤ i ∧ i ≤ j ∧ j < (z.length : Int) := hI; omega
    | opn => have hI : 0 ≤ i ∧ i ≤ (z.length : Int) ∧ j = (z.length : Int) - 1 := hI; omega
  refine sAsgG (gV hK) sS fun x S1 H1 g1 hx => gt3 hx g1.sh fun y1 y2 y3 h1 h2 h3 => ?_
  have hR1 := hR.mono g1.ss
  cases h1; cases h2; cases h3
  refine sAsg (gRul3 (gRul hR1)) g1.sh fun tv S2 H2 g2 ht => ?_
  have hR2 := hR1.mono g2.ss
  refine sIf (gTest (gEqS (gV (.str (kdS kd))) gStr (kdS_ok kd) (kdS_ok .shut))) g2.sh (fun hb S3 H3 g3 => ?_) fun hb S3 H3 g3 => ?_
  · obtain rfl : kd = .shut := kdS_inj (of_decide_eq_true hb)
    refine sRet (gCall (RP := R_lsw) (R := Ways) ((gA4 (mR r) (mD (.str z)) (mD (.int i)) (gRul (hR2.mono g3.ss)) (gV (.str z)) (gV (.int i)) (gV (.int j))).weak fun S2 vs a hv => by
      obtain ⟨x1, x2, x3, x4, rfl, hx1, hx2, hx3, hx4⟩ := hv
      cases hx2; cases hx3; cases hx4
      exact ⟨x1, r, z, i, j, rfl, hx1, ok, zk, hI, rfl⟩)) g3.sh fun v' S5 H5 g5 h5 => q v' S5 H5 (g1.trans (g2.trans (g3.trans g5))) h5
  have ht3 := ht.mono g3.ss
  refine sIf (gAnd (gTest (gEqS (gV (.str (kdS kd))) gStr (kdS_ok kd) (kdS_ok .opn))) fun _ => gTest (gCmpI (f := fun i j => decide (j < i)) (gV (.int i)) (gV (.int j)))) g3.sh (fun hb2 S4 H4 g4 => ?_) fun hb2 S4 H4 g4 => ?_
  · exact sRet (eLst (gaCons (eTup (gaCons gInt (gaCons (eLst gaNil) gaNil))) gaNil)) g4.sh fun v' S5 H5 g5 h5 => q v' S5 H5 (g1.trans (g2.trans (g3.trans (g4.trans g5)))) ⟨[(0, [])], by decide, h5⟩
  have ht4 := ht3.mono g4.ss
  obtain ⟨c0, hc0⟩ : ∃ c0 : Int, atI [PyData.int (r.loops.getD 5 0), .int 0] (b2i (decide (kdS kd = kdS .opn))) = some (.int c0) := by
    cases decide (kdS kd = kdS .opn) with
    | true => exact ⟨0, rfl⟩
    | false => exact ⟨_, rfl⟩
  refine sAsgP (gaCons (eTup (gaCons (gIxL (eLst (gaCons (gLoop (n := 5) (gV ht4) ok) (gaCons gInt gaNil))) (gIntB (gEqS (gV (.str (kdS kd))) gStr (kdS_ok kd) (kdS_ok .opn))) hc0) (gaCons (eLst (gaCons (eTup (gaCons (gV (.str (kdS kd))) (gaCons (gAddI (gV (.int i)) gInt) (gaCons (gV (.int j)) gaNil)))) gaNil)) gaNil))) gaNil) g4.sh fun o xs0 S5 H5 g5 o0 n5 e5 d5 => ?_
  have G4 := ((g1.trans g2).trans g3).trans g4
  have ho : H o = none := G4.same.free o0
  refine fForR2 [o] (fun m σ' S' H' => ∃ e8 xs, σ' = [some v, some (.str z), some kv, some (.str (kdS kd)), some (.int i), some (.int j), some tv, some (.ref o), e8] ∧ S' o = none ∧ H' o = some (.lst xs) ∧ ∃ ws : List Way, ws.length ≤ 1 + 2 * m ∧ DDs S' xs (ws.map eWay))
    (gaCons (gAddI (gV (.int i)) gInt) (gaCons (gAddI (gV (.int j)) gInt) gaNil)) (sm_of (by omega)) (sm_of (by omega)) g5.sh (fun S6 H6 g6 => ⟨_, xs0, rfl, g6.hide n5 e5, g6.same _ _ e5, [(c0, [(kd, i + 1, j)])], Nat.le_refl _, d5.mono g6.ss⟩) (fun m σ' S' H' N hm g hI hN => ?_) fun σ' S' H' g hI => ?_
  · obtain ⟨e8, xs, rfl, n, eo, ws, wl, hd⟩ := hI
    generalize hp : i + 1 + (m : Int) = p at *
    have ht' := ht4.mono (g5.ss.trans g.ss)
    have hxl : xs.length ≤ 1000 := by
      rw [hd.len, List.length_map]
      omega
    have fin : ∀ (S6 H6 : Hp) (ys : List V) (us : List Way), Gr [o] S' H' S6 H6 → S6 o = none → H6 o = some (.lst ys) → us.length ≤ ws.length + 1 → DDs S6 ys (us.map eWay) → tIfS (tTest (tOp (rEqD K) (tVar 3) (tC (.str "one")))) (tDrop (tBM K "list" rAppend (tVar 7) (tCons (tTup (tCons (tOp (rAdd4 K) (tOp (rIx K) (tVar 6) (tC (.int 4))) (tOp (rI CMul fun i j => .int (i * j)) (tOp (rI0 fun i j => .int (i - j)) (tVar 5) (tVar 8)) (tOp (rIx K) (tVar 6) (tC (.int 5))))) (tCons (tLst (tCons (tTup (tCons (tC (.str "shut")) (tCons (tVar 4) (tCons (tVar 8) tNil)))) tNil)) tNil))) tNil))) tNext
        { nx := N, rt := Q, ct := N, bk := tRet (tVar 7) { nx := fun _ H' => Q .non H', rt := Q } } [some v, some (.str z), some kv, some (.str (kdS kd)), some (.int i), some (.int j), some tv, some (.ref o), some (.int p)] H6 := by
      intro S6 H6 ys us g6 n6 e6 ul hd6
      have ht6 := ht'.mono g6.ss
      refine sIf (gTest (gEqS (gV (.str (kdS kd))) gStr (kdS_ok kd) (kdS_ok .one))) g6.sh (fun hb S7 H7 g7 => ?_) fun hb S7 H7 g7 => ?_
      · refine sApp (gvI (mV _) rfl) (eTup (gaCons (gAddI (gLoop (n := 4) (gV (ht6.mono g7.ss)) ok) (gMul (eSub (gV (.int j)) (gV (.int p))) (gLoop (n := 5) (gV (ht6.mono g7.ss)) ok) (cm_loop ok _ 5))) (gaCons (eLst (gaCons (eTup (gaCons gStr (gaCons (gV (.int i)) (gaCons (gV (.int p)) gaNil)))) gaNil)) gaNil))) g7.sh (g7.hide n6 e6) (g7.same _ _ e6) ?_ fun y S8 H8 _ g8 hy n8 => ?_
        · rw [hd6.len, List.length_map]
          exact Nat.lt_of_le_of_lt (show _ ≤ 2000 by omega) (by decide)
        · refine hN _ S8 _ (g6.trans (g7.up0.trans g8)) ⟨_, _, rfl, n8, upd_same, us ++ [(_, [(Kd.shut, i, p)])], by rw [List.length_append, List.length_singleton]; omega, (hd6.mono (g7.ss.trans g8.ss)).flat (.cons hy .nil)⟩
      · exact hN _ S7 _ (g6.trans g7.up0) ⟨_, _, rfl, g7.hide n6 e6, g7.same _ _ e6, us, by omega, hd6.mono g7.ss⟩
    refine sIf (gTest (gEqS (gV (.str (kdS kd))) gStr (kdS_ok kd) (kdS_ok .opn))) g.sh (fun hb S6 H6 g6 => ?_) fun hb S6 H6 g6 => ?_
    · refine sApp (gvI (mV _) rfl) (eTup (gaCons (gLoop (n := 8) (gV (ht'.mono g6.ss)) ok) (gaCons (eLst (gaCons (eTup (gaCons gStr (gaCons (gV (.int i)) (gaCons (gV (.int p)) gaNil)))) (gaCons (eTup (gaCons gStr (gaCons (gAddI (gV (.int p)) gInt) (gaCons (gV (.int j)) gaNil)))) gaNil))) gaNil))) g6.sh (g6.hide n eo) (g6.same _ _ eo) (Nat.lt_of_le_of_lt hxl (by decide)) fun y S7 H7 _ g7 hy n7 => ?_
      exact fin S7 _ _ (ws ++ [(_, [(Kd.shut, i, p), (Kd.opn, p + 1, j)])]) (g6.up0.trans g7) n7 upd_same (by rw [List.length_append, List.length_singleton]; omega) ((hd.mono (g6.ss.trans g7.ss)).flat (.cons hy .nil))
    · refine sApp (gvI (mV _) rfl) (eTup (gaCons (gLoop (n := 4) (gV (ht'.mono g6.ss)) ok) (gaCons (eLst (gaCons (eTup (gaCons gStr (gaCons (gV (.int i)) (gaCons (gV (.int p)) gaNil)))) (gaCons (eTup (gaCons gStr (gaCons (gAddI (gV (.int p)) gInt) (gaCons (gV (.int j)) gaNil)))) gaNil))) gaNil))) g6.sh (g6.hide n eo) (g6.same _ _ eo) (Nat.lt_of_le_of_lt hxl (by decide)) fun y S7 H7 _ g7 hy n7 => ?_
      exact fin S7 _ _ (ws ++ [(_, [(Kd.shut, i, p), (Kd.one, p + 1, j)])]) (g6.up0.trans g7) n7 upd_same (by rw [List.length_append, List.length_singleton]; omega) ((hd.mono (g6.ss.trans g7.ss)).flat (.cons hy .nil))
  · obtain ⟨e8, xs, rfl, n, eo, ws, wl, hd⟩ := hI
    exact sRetP rfl (tellL (Gr.over1 (G4.trans g5) g ho) ho n eo hd fun v' S6 H6 g6 h6 => q v' S6 H6 g6 ⟨ws, by omega, h6⟩)
/-! ### keys -/
theorem flat_perm {α β : Type} (f g : α → List β) : ∀ l : List α, (l.flatMap fun x => f x ++ g x).Perm (l.flatMap f ++ l.flatMap g)
  | [] => .nil
  | a :: l => by
    rw [List.flatMap_cons, List.flatMap_cons, List.flatMap_cons, List.append_assoc, List.append_assoc]
    refine List.Perm.append_left _ ?_
    refine ((flat_perm f g l).append_left (g a)).trans ?_
    exact List.perm_append_comm_assoc _ _ _
theorem flat_single {α β : Type} (f : α → β) : ∀ l : List α, (l.flatMap fun x => [f x]) = l.map f
  | [] => rfl
  | a :: l => by rw [List.flatMap_cons, flat_single f l]; rfl
theorem irange_cons {i n : Int} (h : i < n) : irange i n = i :: irange (i + 1) n := by
  unfold irange
  obtain ⟨d, hd⟩ : ∃ d, (n - i).toNat = d + 1 := ⟨(n - i).toNat - 1, by omega⟩
  have e : (n - (i + 1)).toNat = d := by omega
  rw [hd, e, List.range_succ_eq_map, List.map_cons, List.map_map]
  congr 1
  · show i + ((0 : Nat) : Int) = i
    omega
  · refine List.map_congr_left fun x _ => ?_
    show i + ((x + 1 : Nat) : Int) = i + 1 + (x : Int)
    omega
theorem flat_congr {α β : Type} {f g : α → List β} : ∀ {l : List α}, (∀ x ∈ l, f x = g x) → l.flatMap f = l.flatMap g
  | [], _ => rfl
  | a :: l, h => by
    rw [List.flatMap_cons, List.flatMap_cons, h a List.mem_cons_self, flat_congr fun x hx => h x (List.mem_cons_of_mem _ hx)]
theorem keys_row {i n : Int} (h : i < n) : ((irange i n).map (fun j => ((Kd.one, i, j) : Ky)) ++ (irange i n).map (fun j => (Kd.two, i, j)) ++ (irange (i + 1) n).map fun j => (Kd.shut, i, j)).Perm
    ((irange i n).flatMap fun j => ([(Kd.one, i, j), (Kd.two, i, j)] : List Ky) ++ (if i < j then [(Kd.shut, i, j)] else [])) := by
  refine List.Perm.symm ((flat_perm _ _ _).trans ?_)
  refine List.Perm.append ?_ ?_
  · have := flat_perm (fun j => [((Kd.one, i, j) : Ky)]) (fun j => [(Kd.two, i, j)]) (irange i n)
    rw [flat_single, flat_single] at this
    exact this
  · rw [irange_cons h, List.flatMap_cons, if_neg (by omega), List.nil_append]
    have : ((irange (i + 1) n).flatMap fun j => if i < j then [((Kd.shut, i, j) : Ky)] else []) = (irange (i + 1) n).flatMap fun j => [(Kd.shut, i, j)] := by
      refine flat_congr fun x hx => ?_
      have := mem_irange.mp hx
      rw [if_pos (by omega)]
    rw [this, flat_single]
theorem flat_perm_congr {α β : Type} {f g : α → List β} : ∀ {l : List α}, (∀ x ∈ l, (f x).Perm (g x)) → (l.flatMap f).Perm (l.flatMap g)
  | [], _ => .nil
  | a :: l, h => by
    rw [List.flatMap_cons, List.flatMap_cons]
    exact (h a List.mem_cons_self).append (flat_perm_congr fun x hx => h x (List.mem_cons_of_mem _ hx))
def rowK (n i : Int) : List Ky := (irange i n).map (fun j => (Kd.one, i, j)) ++ (irange i n).map (fun j => (Kd.two, i, j)) ++ (irange (i + 1) n).map fun j => (Kd.shut, i, j)
def R_lkeys : Hp → List V → (Hp → V → Prop) → Prop := R_row_keys
theorem rowK_len {n i : Int} (h : 0 ≤ i ∧ n ≤ 12) : (rowK n i).length ≤ 36 := by
  unfold rowK
  rw [List.length_append, List.length_append, List.length_map, List.length_map, List.length_map, irange_len, irange_len]
  omega
theorem ok_law_keys {f : Addr} {fd : FuncData} {k : Nat} (F : Fun K "_law_keys" "_law_keys" s_law_keys f fd) (B : BI mg) : FnOk P w K mg base CX0 (k + 1) f fd ["_law_many"] (spP R_row_keys) := by
  refine okP F sc_law_keys (fun S vs Post h => by obtain ⟨n, rfl, _⟩ := h; rfl) fun cdv A outer s H S vs Post Q E hr sS h q => ?_
  obtain ⟨n, rfl, hn, rfl⟩ := h
  refine ⟨_, (pss_cons (ps_setLc (i := 1) (own := [("_law_i", 2)]) (g := (gName 2)) (by rfl) sc_law_keys.nd rfl rfl (sw_true rfl rfl rfl (by decide +kernel)) (pi_range1 (by rfl) B.range (pa_cons (pe_op (op_add4 : OpR _ _ (rAdd4 K)) (pv 0) pe_int) pa_nil)) (blkOk_by (own := [("_law_i", 2)]) (N := ["_law_many", "_law_found", "_law_i", "_law_j"]) (sc := defScope s_law_keys) (by decide +kernel)) (fun _ _ _ _ _ => (pg_name (i := 2) sc_law_keys.nd rfl (by first | exact .inl rfl | exact .inr rfl))) (fun _ _ _ _ _ => pts_nil) (fun _ _ _ _ _ => (pe_tup (pa_cons pe_str (pa_cons (pv 2) (pa_cons (pe_op op_sub (pv 0) pe_int) pa_nil))))))
      (pss_cons (ps_for PassesOwn.never rfl (pi_range1 (by rfl) B.range (pa_cons (pv 0) pa_nil)) (pg_name (i := 2) sc_law_keys.nd rfl (by first | exact .inl rfl | exact .inr rfl)) (pss_cons (ps_set (i := 1) sc_law_keys.nd rfl (by first | exact .inl rfl | exact .inr rfl) (pe_op (op_add4 : OpR _ _ (rAdd4 K)) (pe_op (op_add4 : OpR _ _ (rAdd4 K)) (pv 1) (pe_lc (own := [("_law_j", 3)]) (g := (gName 3)) (by rfl) sc_law_keys.nd (pi_range2 (by rfl) B.range (pa_cons (pv 2) (pa_cons (pv 0) pa_nil))) (blkOk_by (own := [("_law_j", 3)]) (N := ["_law_many", "_law_found", "_law_i", "_law_j"]) (sc := defScope s_law_keys) (by decide +kernel)) (fun _ _ _ _ _ => (pg_name (i := 3) sc_law_keys.nd rfl (by first | exact .inl rfl | exact .inr rfl))) (fun _ _ _ _ _ => pts_nil) (fun _ _ _ _ _ => (pe_tup (pa_cons pe_str (pa_cons (pv 2) (pa_cons (pv 3) pa_nil))))))) (pe_lc (own := [("_law_j", 3)]) (g := (gName 3)) (by rfl) sc_law_keys.nd (pi_range2 (by rfl) B.range (pa_cons (pv 2) (pa_cons (pv 0) pa_nil))) (blkOk_by (own := [("_law_j", 3)]) (N := ["_law_many", "_law_found", "_law_i", "_law_j"]) (sc := defScope s_law_keys) (by decide +kernel)) (fun _ _ _ _ _ => (pg_name (i := 3) sc_law_keys.nd rfl (by first | exact .inl rfl | exact .inr rfl))) (fun _ _ _ _ _ => pts_nil) (fun _ _ _ _ _ => (pe_tup (pa_cons pe_str (pa_cons (pv 2) (pa_cons (pv 3) pa_nil))))))))
      (pss_one (ps_set (i := 1) sc_law_keys.nd rfl (by first | exact .inl rfl | exact .inr rfl) (pe_op (op_add4 : OpR _ _ (rAdd4 K)) (pv 1) (pe_lc (own := [("_law_j", 3)]) (g := (gName 3)) (by rfl) sc_law_keys.nd (pi_range2 (by rfl) B.range (pa_cons (pe_op (op_add4 : OpR _ _ (rAdd4 K)) (pv 2) pe_int) (pa_cons (pv 0) pa_nil))) (blkOk_by (own := [("_law_j", 3)]) (N := ["_law_many", "_law_found", "_law_i", "_law_j"]) (sc := defScope s_law_keys) (by decide +kernel)) (fun _ _ _ _ _ => (pg_name (i := 3) sc_law_keys.nd rfl (by first | exact .inl rfl | exact .inr rfl))) (fun _ _ _ _ _ => pts_nil) (fun _ _ _ _ _ => (pe_tup (pa_cons pe_str (pa_cons (pv 2) (pa_cons (pv 3) pa_nil)))))))))))
      (pss_one (ps_ret (pe_callB (cr_srt hr.units) (by rfl) B.sorted (by decide +kernel) (pa_cons (pv 1) pa_nil)))))), ?_⟩
  refine sAsg (gLcR11 (fun x => eKy (.opn, x, n - 1)) (gaCons (gAddI (gV (.int n)) gInt) gaNil) (sm_of (by omega)) (Nat.le_trans (show _ ≤ 64 by omega) (by decide)) fun x h1 h2 S1 e => turnN rfl gYes fun _ => eTup (gaCons gStr (gaCons (gV (.int x)) (gaCons (eSub (gV (.int n)) gInt) gaNil)))) sS fun fv S1 H1 g1 hf => ?_
  refine fForR1 [] (fun m σ' S' H' => ∃ fv e2, σ' = [some (.int n), some fv, e2, none] ∧ DD S' fv (.list (((irange 0 (n + 1)).map (fun i => (Kd.opn, i, n - 1)) ++ ((irange 0 n).take m).flatMap (rowK n)).map eKy)))
    (gaCons (gV (.int n)) gaNil) (sm_of (by omega)) g1.sh (fun S3 H3 g3 => ⟨_, _, rfl, by rw [List.take_zero, List.flatMap_nil, List.append_nil, List.map_map]; exact hf.mono g3.ss⟩) (fun m σ' S' H' N hm g hI hN => ?_) fun σ' S' H' g hI => ?_
  · obtain ⟨fv, e2, rfl, hfv⟩ := hI
    generalize hp : (0 : Int) + (m : Int) = p at *
    have hl : ((irange 0 (n + 1)).map (fun i => ((Kd.opn, i, n - 1) : Ky)) ++ ((irange 0 n).take m).flatMap (rowK n)).length ≤ 1000 := by
      rw [List.length_append, List.length_map, irange_len]
      have := flat_len (f := rowK n) (l := (irange 0 n).take m) (c := 36) (fun x hx => rowK_len ⟨(mem_irange.mp (List.mem_of_mem_take hx)).1, hn.2⟩)
      rw [List.length_take, irange_len'] at this
      omega
    generalize hF : (irange 0 (n + 1)).map (fun i => ((Kd.opn, i, n - 1) : Ky)) ++ ((irange 0 n).take m).flatMap (rowK n) = F0 at *
    refine sAsg (gAddL (gAddL (gV hfv) (gLcR21 (fun x => eKy (.one, p, x)) (gaCons (gV (.int p)) (gaCons (gV (.int n)) gaNil)) (sm_of (by omega)) (sm_of (by omega)) (Nat.le_trans (show _ ≤ 64 by omega) (by decide)) fun x h1 h2 S1 e => turnN rfl gYes fun _ => eTup (gaCons gStr (gaCons (gV (.int p)) (gaCons (gV (.int x)) gaNil)))) ?_)
      (gLcR21 (fun x => eKy (.two, p, x)) (gaCons (gV (.int p)) (gaCons (gV (.int n)) gaNil)) (sm_of (by omega)) (sm_of (by omega)) (Nat.le_trans (show _ ≤ 64 by omega) (by decide)) fun x h1 h2 S1 e => turnN rfl gYes fun _ => eTup (gaCons gStr (gaCons (gV (.int p)) (gaCons (gV (.int x)) gaNil)))) ?_) g.sh fun gv S3 H3 g3 hg => ?_
    · rw [List.length_map, List.length_map, irange_len]
      exact Nat.le_trans (show _ ≤ 2000 by omega) (by decide)
    · rw [List.length_append, List.length_map, List.length_map, List.length_map, irange_len]
      exact Nat.le_trans (show _ ≤ 2000 by omega) (by decide)
    refine sAsg (gAddL (gV hg) (gLcR21 (fun x => eKy (.shut, p, x)) (gaCons (gAddI (gV (.int p)) gInt) (gaCons (gV (.int n)) gaNil)) (sm_of (by omega)) (sm_of (by omega)) (Nat.le_trans (show _ ≤ 64 by omega) (by decide)) fun x h1 h2 S1 e => turnN rfl gYes fun _ => eTup (gaCons gStr (gaCons (gV (.int p)) (gaCons (gV (.int x)) gaNil)))) ?_) g3.sh fun gv2 S4 H4 g4 hg4 => ?_
    · simp only [List.length_append, List.length_map, irange_len]
      exact Nat.le_trans (show _ ≤ 2000 by omega) (by decide)
    refine hN _ S4 _ (g3.trans g4) ⟨_, _, rfl, ?_⟩
    rw [take_flatMap (irange_get (by omega)), hp, ← List.append_assoc, hF]
    unfold rowK
    rw [List.map_append, List.map_append, List.map_append, List.map_map, List.map_map, List.map_map, ← List.append_assoc, ← List.append_assoc]
    exact hg4
  · obtain ⟨fv, e2, rfl, hfv⟩ := hI
    rw [List.take_of_length_le (by rw [irange_len]; omega)] at hfv
    refine sRet (gSorted (R := fun S' x => ∃ ks : List Ky, ks.Perm (keysL n) ∧ DD S' x (.list (ks.map eKy))) (gV hfv) (srt_keys _) fun S5 v5 ds' e hp _ hd5 => ?_) g.sh fun v5 S5 H5 g5 h5 => q v5 S5 H5 (g1.trans (g.trans g5)) h5
    obtain ⟨l', p, rfl⟩ := perm_map_inv hp
    refine ⟨l', p.trans ?_, hd5⟩
    unfold keysL
    exact List.Perm.append_left _ (flat_perm_congr fun i hi => keys_row (mem_irange.mp hi).2)
end
end PF
-- part PfL6
set_option Elab.async false
set_option linter.all false
set_option maxRecDepth 100000
set_option maxHeartbeats 4000000
namespace PF
open PySem PySem.Spec PyProof.Rows L2
theorem sc_law_least_rows : FnScope ["_law_given", "_law_writ_here", "_law_caps", "_law_sorts", "_law_keys_here", "_law_key", "_law_order_so", "_law_known", "_law_row", "_law_i", "_law_some", "_law_own", "_law_asked", "_law_one"] ["_law_given", "_law_writ_here", "_law_caps"] (defScope s_law_least_rows) := ⟨rfl, rfl, rfl, by decide +kernel, rfl, by decide +kernel, by decide +kernel⟩
section
variable {P : Program} {w : World} {K : PySem.W.Frag} {mg : Str → Option Value} {base : Heap} {S H : Hp} {σ : L2.St} {ta tb tl te td ty tv : TE} {tt : TT} {g : TG} {vs : List Nat} {D : Ends}
/-- an item's turn that gives some y of these -/
def TurnX {β : Type} (σ : L2.St) (vs : List Nat) (g : TG) (tt : TT) (te : TE) (S1 : Hp) (v : V) (Py : β → Prop) (f : β → PyData) : Prop :=
  ∃ σ2, (∀ (H : Hp) (Q : L2.St → Hp → Prop), Same S1 H → Q σ2 H → g v (wipe σ vs) H Q) ∧ wipe σ2 vs = wipe σ vs ∧ GT tt σ2 S1 true ∧ Gv te σ2 S1 fun S' x => ∃ y, Py y ∧ DD S' x (f y)
theorem turnX2 {β : Type} {i j : Nat} {S1 : Hp} {v : V} {d1 d2 : PyData} {Py : β → Prop} {f : β → PyData} (h : DD S1 v (.tuple [d1, d2])) (q : ∀ x y, DD S1 x d1 → DD S1 y d2 → wipe (((wipe σ vs).set i (some x)).set j (some y)) vs = wipe σ vs ∧ GT tt (((wipe σ vs).set i (some x)).set j (some y)) S1 true ∧
    Gv te (((wipe σ vs).set i (some x)).set j (some y)) S1 fun S' x => ∃ y, Py y ∧ DD S' x (f y)) : TurnX σ vs (gTup K 2 (gCons (gName i) (gCons (gName j) gNil))) tt te S1 v Py f := by
  obtain ⟨a, xs, rfl, h1, h2⟩ := h.tupE
  obtain ⟨x, r, rfl, hx, h2⟩ := h2.consE
  obtain ⟨y, r, rfl, hy, h2⟩ := h2.consE
  cases h2
  exact ⟨_, fun H Q s q => ⟨a, _, rfl, SqT.of (s _ _ h1), rfl, x, _, rfl, y, _, rfl, rfl, q⟩, q x y hx hy⟩
theorem gLcX {α β : Type} (enc : α → PyData) (Pl : List α → Prop) (Py : β → Prop) (f : β → PyData) (N : Nat) (hl : Gv tl σ S fun S' v => ∃ l, Pl l ∧ DD S' v (.list (l.map enc))) (hz : ∀ l, Pl l → l.length ≤ N) (hN : N ≤ sizeLine)
    (hs : ∀ l, Pl l → ∀ x ∈ l, ∀ v S1, Same S S1 → DD S1 v (enc x) → TurnX σ vs g tt te S1 v Py f) : Gv (tLc (iList K tl) g tt te vs) σ S fun S' v => ∃ ys : List β, (∀ y ∈ ys, Py y) ∧ ys.length ≤ N ∧ DD S' v (.list (ys.map f)) := fun S1 H a b Q q =>
  hl S1 H a b _ fun x S2 H2 g2 hx => by
    obtain ⟨l, hP, hx⟩ := hx
    obtain ⟨A, xs, rfl, h1, h2⟩ := hx.lstE
    refine ⟨A, rfl, ⟨xs, SqL.of (g2.sh _ _ h1)⟩, fun Dl hD => ?_⟩
    refine lc_list (xs := xs) (fun i H' => ∃ S' acc ys, Gr [Dl] S2 (upd H2 Dl (.lst [])) S' H' ∧ S' Dl = none ∧ H' Dl = some (.lst acc) ∧ (∀ y ∈ ys, Py y) ∧ ys.length = i ∧ DDs S' acc (ys.map f)) ⟨S2, [], [], Gr.refl (Gr.priv g2.sh hD).sh, g2.sh.free hD, upd_same, by simp, rfl, .nil⟩ (fun i H' _ hp => ?_) (fun i x H' hx hp => ?_) fun H' hp => ?_
    · obtain ⟨S', acc, ys, gr, _⟩ := hp
      exact SqL.of (gr.sh _ _ (gr.ss _ _ h1))
    · obtain ⟨S', acc, ys, gr, n, e, hy, hyl, hacc⟩ := hp
      obtain ⟨d, hd, hv⟩ := h2.get hx
      obtain ⟨z, hz', rfl⟩ := map_get hd
      obtain ⟨σ2, hg, hw, ht, he⟩ := hs l hP z (List.mem_of_getElem? hz') x S' ((a.trans g2.ss).trans gr.ss) (hv.mono gr.ss)
      refine hg H' _ gr.sh ⟨hw, ht.run gr.sh fun S3 H3 g3 => ?_⟩
      have n3 := g3.hide n e
      have e3 := g3.same _ _ e
      refine iteT ((he.mono g3.ss).run g3.sh fun y S4 H4 g4 hy4 => ?_)
      obtain ⟨y', hy1, hy2⟩ := hy4
      have n4 := g4.hide n3 e3
      have e4 := g4.same _ _ e3
      refine ⟨acc, e4, ?_, S4, acc ++ [y], ys ++ [y'], ((gr.trans g3.up0).trans g4.up0).put (by simp) n4, n4, upd_same, fun y2 hy2 => ?_, by rw [List.length_append, hyl]; rfl, ?_⟩
      · have h5 := hacc.len
        rw [List.length_map] at h5
        have h6 := (List.getElem?_eq_some_iff.mp hz').1
        have := hz l hP
        omega
      · rcases List.mem_append.mp hy2 with h | h
        · exact hy y2 h
        · rw [List.mem_singleton.mp h]; exact hy1
      · rw [List.map_append]
        exact ((hacc.mono g3.ss).mono g4.ss).snoc hy2
    · obtain ⟨S', acc, ys, gr, n', e, hy, hyl, hacc⟩ := hp
      refine q _ _ _ (g2.trans ((Gr.over1 (Gr.priv g2.sh hD) gr hD).tell hD n' e)) ⟨ys, hy, ?_, .lst upd_same (hacc.mono (same_upd' n'))⟩
      have := hz l hP
      rw [h2.len, List.length_map] at hyl
      omega
/-- xs.index(s) of texts -/
theorem gIndexL {zs : List Str} {z : Str} {j : Nat} (hr : GD ta σ S (.list (zs.map .str))) (ha : GD tb σ S (.str z)) (h1 : zs[j]? = some z) (h2 : ∀ m, m < j → zs[m]? ≠ some z) : GD (tBM K "list" (rIndex K) ta (tCons tb tNil)) σ S (.int (j : Int)) := fun S1 H a b Q q =>
  hr S1 H a b _ fun x S2 H2 g hx => by
    obtain ⟨p, xs, rfl, e1, e2⟩ := hx.lstE
    obtain rfl := e2.strs
    refine ⟨.inl ⟨rfl, _, SqL.of (g.sh _ _ e1)⟩, ha S2 H2 (a.trans g.ss) g.sh _ fun y S3 H3 g3 hy => ?_⟩
    cases hy
    refine ⟨p, zs.map V.str, .str z, j, .str z, rfl, rfl, SqL.of (g3.same _ _ (g.sh _ _ e1)), rfl, ?_, by rw [List.getElem?_map, h1]; rfl, by simp [eqV], fun m z' hm hz => ?_, q _ S3 H3 (g.trans g3) (.int _)⟩
    · rw [List.all_map]
      exact List.all_eq_true.mpr fun _ _ => rfl
    · obtain ⟨s, hs, rfl⟩ := map_get hz
      have : s ≠ z := fun e => h2 m hm (by rw [hs, e])
      simp [eqV, this]
theorem strs3_0 : (["shut", "one", "two"] : List Str)[0]? = some ("shut" : Str) := rfl
def e4 (k : Ky) : PyData := .tuple [.int (0 - k.2.1), .int k.2.2, .int (kdN k.1), eKy k]
theorem srt_e4 (l : List Ky) : Srt (l.map e4) :=
  ⟨PySem.W.AllAlike.of fun a b => by simp [e4, eKy, PySem.W.alike, PySem.W.alikeAll], PySem.W.Sortable.tuples fun b => ⟨_, _, rfl⟩, fun d hd => by
    obtain ⟨k, _, rfl⟩ := List.mem_map.mp hd
    simp [e4, eKy, PyData.depth, PyData.depthAll]⟩
/-- d[k] = v at a dict told in S5, hidden in the shadow that the loop goes on with -/
theorem sPutT2 {S5 H5 : Hp} {o : Addr} {kvs : Kvs} {k : List Key} {R : Hp → V → Prop} (mR : Mono R) (hv : Gv tv σ S5 R) (hd : Gv td σ S5 fun _ v => v = .ref o) (hk : GD ty σ S5 (.tuple (k.map kD))) (sS : Same S5 H5) (eo : S5 o = some (.dT kvs)) (hz : kvs.length < sizeLine)
    (q : ∀ v S2 H2, Gr [] S5 H5 S2 H2 → R S2 v → D.nx σ (upd H2 o (.dT (putK kvs k v)))) : sDPut td ty tv D σ H5 := by
  refine hv.run sS fun v S2 H2 g2 hr => ?_
  refine (hd.mono g2.ss).run g2.sh fun x S3 H3 g3 hx => ?_
  subst hx
  refine (hk.mono (g2.ss.trans g3.ss)).run g3.sh fun y S4 H4 g4 hy => ?_
  obtain ⟨b, xs, rfl, h1, h2⟩ := hy.tupE
  obtain rfl := h2.keys
  have g34 := g3.trans g4
  exact ⟨o, _, rfl, DPut.t ((g2.trans g34).same _ _ (sS _ _ eo)) (g4.sh _ _ h1) hz, q v S4 H4 (g2.trans g34) (mR _ _ _ g34.ss hr)⟩
def R_lrows : Hp → List V → (Hp → V → Prop) → Prop := fun S vs Post => ∃ (v cv : V) (r : Rl) (z : Str) (kvc : Kvs), vs = [v, .str z, cv] ∧ RulesAt S v r ∧ RlOk r ∧ ZOk z ∧ IsDT kvc S cv ∧ TabOk kvc ∧ Post = fun S' x => ∃ ks T, ks.Perm (keysL (z.length : Int)) ∧ DD S' x (rowsD ks T)
theorem Gr.hide' {ex : List Addr} {S H S1 H1 : Hp} {p : Addr} {o : HO} (g : Gr ex S H S1 H1) (n : S p = none) (e : H p = some o) (ho : ∀ xs, o ≠ .tup xs := by intro xs z; cases z) : S1 p = none := g.hide n e ho
theorem oD_filter : ∀ os : List (Option Int), ∃ ns : List Int, (os.filter fun o => !o.isNone).map oD = ns.map .int := fun os => ⟨os.filterMap id, somes os⟩
theorem mOD : Mono fun S v => ∃ o, DD S v (oD o) := fun _ _ _ e h => by
  obtain ⟨o, h⟩ := h
  exact ⟨o, h.mono e⟩
theorem callKeys {te : TE} {n : Int} (h : GD te σ S (.int n)) (hn : 0 ≤ n ∧ n ≤ 12) : Gv (tCall (spP R_row_keys) [] E0 (tCons te tNil)) σ S fun S' v => ∃ ks : List Ky, ks.Perm (keysL n) ∧ DD S' v (.list (ks.map eKy)) :=
  gCall (RP := R_row_keys) ((ga1 h).weak fun S2 vs a hv => by
    obtain ⟨x, rfl, hx⟩ := hv
    cases hx
    exact ⟨n, rfl, hn, rfl⟩)
theorem ok_law_least_rows {f : Addr} {fd : FuncData} {k : Nat} (F : Fun K "_law_least_rows" "_law_least_rows" s_law_least_rows f fd) (B : BI mg) (c_law_keys : Ok P w K mg base "_law_keys" ["_law_many"] 1 (spP R_row_keys)) (c_law_come : Ok P w K mg base "_law_come" ["_law_known", "_law_own", "_law_keys_here"] 1 (spP R_lcome))
    (c_law_ways : Ok P w K mg base "_law_ways" ["_law_given", "_law_writ_here", "_law_key"] 3 (spP R_lways)) (hk : 3 ≤ k) : FnOk P w K mg base CX0 (k + 1) f fd ["_law_given", "_law_writ_here", "_law_caps"] (spP R_lrows) := by
  refine okP F sc_law_least_rows (fun S vs Post h => by obtain ⟨v, kv, r, z, key, rfl, _⟩ := h; rfl) fun cdv A outer s H S vs Post Q E hr sS h q => ?_
  obtain ⟨v, cv, r, z, kvc, rfl, hR, ok, zk, hC, okc, rfl⟩ := h
  refine ⟨_, (pss_cons (ps_set (i := 3) sc_law_least_rows.nd rfl (by first | exact .inl rfl | exact .inr rfl) (pe_lst (pa_cons pe_str (pa_cons pe_str (pa_cons pe_str pa_nil)))))
      (pss_cons (ps_setLc (i := 4) (own := [("_law_key", 5)]) (g := (gName 5)) (by rfl) sc_law_least_rows.nd rfl rfl (sw_true rfl rfl rfl (by decide +kernel)) (pi_list (pe_ok c_law_keys (hr.mono (by omega)) (by rfl) (pa_cons (pe_callB (call_lenA : CallR _ _ (rLenA K)) (by rfl) B.len (by decide +kernel) (pa_cons (pv 1) pa_nil)) pa_nil))) (blkOk_by (own := [("_law_key", 5)]) (N := ["_law_given", "_law_writ_here", "_law_caps", "_law_sorts", "_law_keys_here", "_law_key", "_law_order_so", "_law_known", "_law_row", "_law_i", "_law_some", "_law_own", "_law_asked", "_law_one"]) (sc := defScope s_law_least_rows) (by decide +kernel)) (fun _ _ _ _ _ => (pg_name (i := 5) sc_law_least_rows.nd rfl (by first | exact .inl rfl | exact .inr rfl))) (fun _ _ _ _ _ => (pts_one (pt_cmpR (op_neD hr.units : OpR _ _ (rNeD K)) (pe_ix (ix_seq : IxR _ (rIx K)) (pv 5) pe_int (fun _ _ => rfl)) pe_str (nomark _)))) (fun _ _ _ _ _ => (pv 5)))
      (pss_cons (ps_set (i := 6) sc_law_least_rows.nd rfl (by first | exact .inl rfl | exact .inr rfl) (pe_callB (cr_srt hr.units) (by rfl) B.sorted (by decide +kernel) (pa_cons (pe_lc (own := [("_law_key", 5)]) (g := (gName 5)) (by rfl) sc_law_least_rows.nd (pi_list (pv 4)) (blkOk_by (own := [("_law_key", 5)]) (N := ["_law_given", "_law_writ_here", "_law_caps", "_law_sorts", "_law_keys_here", "_law_key", "_law_order_so", "_law_known", "_law_row", "_law_i", "_law_some", "_law_own", "_law_asked", "_law_one"]) (sc := defScope s_law_least_rows) (by decide +kernel)) (fun _ _ _ _ _ => (pg_name (i := 5) sc_law_least_rows.nd rfl (by first | exact .inl rfl | exact .inr rfl))) (fun _ _ _ _ _ => pts_nil) (fun _ _ _ _ _ => (pe_tup (pa_cons (pe_op op_sub pe_int (pe_ix (ix_seq : IxR _ (rIx K)) (pv 5) pe_int (fun _ _ => rfl))) (pa_cons (pe_ix (ix_seq : IxR _ (rIx K)) (pv 5) pe_int (fun _ _ => rfl)) (pa_cons (pe_bm PySem.F.plainAttrs_list PySem.F.slot_list_index PySem.F.type_list_index (mt_index : MtR _ _ (rIndex K)) (pv 3) (pa_cons (pe_ix (ix_seq : IxR _ (rIx K)) (pv 5) pe_int (fun _ _ => rfl)) pa_nil) : PE _ _ (tBM K "list" (rIndex K) _ _)) (pa_cons (pv 5) pa_nil))))))) pa_nil)))
      (pss_cons (ps_set (i := 7) sc_law_least_rows.nd rfl (by first | exact .inl rfl | exact .inr rfl) pe_dnewT)
      (pss_cons (ps_for PassesOwn.never rfl (pi_list (pe_op (op_add4 : OpR _ _ (rAdd4 K)) (pe_lc (own := [("_law_row", 8)]) (g := (gName 8)) (by rfl) sc_law_least_rows.nd (pi_list (pv 6)) (blkOk_by (own := [("_law_row", 8)]) (N := ["_law_given", "_law_writ_here", "_law_caps", "_law_sorts", "_law_keys_here", "_law_key", "_law_order_so", "_law_known", "_law_row", "_law_i", "_law_some", "_law_own", "_law_asked", "_law_one"]) (sc := defScope s_law_least_rows) (by decide +kernel)) (fun _ _ _ _ _ => (pg_name (i := 8) sc_law_least_rows.nd rfl (by first | exact .inl rfl | exact .inr rfl))) (fun _ _ _ _ _ => pts_nil) (fun _ _ _ _ _ => (pe_ix (ix_seq : IxR _ (rIx K)) (pv 8) pe_int (fun _ _ => rfl)))) (pe_lc (own := [("_law_i", 9)]) (g := (gName 9)) (by rfl) sc_law_least_rows.nd (pi_range3 (by rfl) B.range (pa_cons (pe_callB (call_lenA : CallR _ _ (rLenA K)) (by rfl) B.len (by decide +kernel) (pa_cons (pv 1) pa_nil)) (pa_cons (pe_un un_neg pe_int) (pa_cons (pe_un un_neg pe_int) pa_nil)))) (blkOk_by (own := [("_law_i", 9)]) (N := ["_law_given", "_law_writ_here", "_law_caps", "_law_sorts", "_law_keys_here", "_law_key", "_law_order_so", "_law_known", "_law_row", "_law_i", "_law_some", "_law_own", "_law_asked", "_law_one"]) (sc := defScope s_law_least_rows) (by decide +kernel)) (fun _ _ _ _ _ => (pg_name (i := 9) sc_law_least_rows.nd rfl (by first | exact .inl rfl | exact .inr rfl))) (fun _ _ _ _ _ => pts_nil) (fun _ _ _ _ _ => (pe_tup (pa_cons pe_str (pa_cons (pv 9) (pa_cons (pe_op op_sub (pe_callB (call_lenA : CallR _ _ (rLenA K)) (by rfl) B.len (by decide +kernel) (pa_cons (pv 1) pa_nil)) pe_int) pa_nil)))))))) (pg_name (i := 5) sc_law_least_rows.nd rfl (by first | exact .inl rfl | exact .inr rfl)) (pss_cons (ps_setLc (i := 10) (own := [("_law_own", 11), ("_law_asked", 12)]) (g := (gTup K 2 (gCons (gName 11) (gCons (gName 12) gNil)))) (by rfl) sc_law_least_rows.nd rfl rfl (sw_true rfl rfl rfl (by decide +kernel)) (pi_list (pe_ok c_law_ways (hr.mono (by omega)) (by rfl) (pa_cons (pv 0) (pa_cons (pv 1) (pa_cons (pv 5) pa_nil))))) (blkOk_by (own := [("_law_own", 11), ("_law_asked", 12)]) (N := ["_law_given", "_law_writ_here", "_law_caps", "_law_sorts", "_law_keys_here", "_law_key", "_law_order_so", "_law_known", "_law_row", "_law_i", "_law_some", "_law_own", "_law_asked", "_law_one"]) (sc := defScope s_law_least_rows) (by decide +kernel)) (fun _ _ _ _ _ => (pg_tup (by rfl) (pgs_cons (pg_name (i := 11) sc_law_least_rows.nd rfl (by first | exact .inl rfl | exact .inr rfl)) (pgs_cons (pg_name (i := 12) sc_law_least_rows.nd rfl (by first | exact .inl rfl | exact .inr rfl)) pgs_nil)))) (fun _ _ _ _ _ => pts_nil) (fun _ _ _ _ _ => (pe_ok c_law_come (hr.mono (by omega)) (by rfl) (pa_cons (pv 7) (pa_cons (pv 11) (pa_cons (pv 12) pa_nil))))))
      (pss_cons (ps_setLc (i := 10) (own := [("_law_one", 13)]) (g := (gName 13)) (by rfl) sc_law_least_rows.nd rfl rfl (sw_true rfl rfl rfl (by decide +kernel)) (pi_list (pe_op (op_add4 : OpR _ _ (rAdd4 K)) (pv 10) (pe_lst (pa_cons (pe_dget2 (hu_of hr) (pv 2) (pv 5) pe_non ⟨rfl, rfl, rfl, rfl⟩) pa_nil)))) (blkOk_by (own := [("_law_one", 13)]) (N := ["_law_given", "_law_writ_here", "_law_caps", "_law_sorts", "_law_keys_here", "_law_key", "_law_order_so", "_law_known", "_law_row", "_law_i", "_law_some", "_law_own", "_law_asked", "_law_one"]) (sc := defScope s_law_least_rows) (by decide +kernel)) (fun _ _ _ _ _ => (pg_name (i := 13) sc_law_least_rows.nd rfl (by first | exact .inl rfl | exact .inr rfl))) (fun _ _ _ _ _ => (pts_one (pt_cmp (pc_notN (pv 13)) rfl))) (fun _ _ _ _ _ => (pv 13)))
      (pss_one (ps_dput (hu_of hr) (pv 7) (pv 5) (pe_ifExp (pt_cmpR (op_eqD hr.units : OpR _ _ (rEqD K)) (pv 10) (pe_lst pa_nil) (nomark _)) pe_non (pe_callB (cr_min rfl) (by rfl) B.min (by decide +kernel) (pa_cons (pv 10) pa_nil))) rfl)))))
      (pss_one (ps_ret (pe_lc (own := [("_law_key", 5)]) (g := (gName 5)) (by rfl) sc_law_least_rows.nd (pi_list (pe_ok c_law_keys (hr.mono (by omega)) (by rfl) (pa_cons (pe_callB (call_lenA : CallR _ _ (rLenA K)) (by rfl) B.len (by decide +kernel) (pa_cons (pv 1) pa_nil)) pa_nil))) (blkOk_by (own := [("_law_key", 5)]) (N := ["_law_given", "_law_writ_here", "_law_caps", "_law_sorts", "_law_keys_here", "_law_key", "_law_order_so", "_law_known", "_law_row", "_law_i", "_law_some", "_law_own", "_law_asked", "_law_one"]) (sc := defScope s_law_least_rows) (by decide +kernel)) (fun _ _ _ _ _ => (pg_name (i := 5) sc_law_least_rows.nd rfl (by first | exact .inl rfl | exact .inr rfl))) (fun _ _ _ _ _ => pts_nil) (fun _ _ _ _ _ => (pe_op (op_add4 : OpR _ _ (rAdd4 K)) (pv 5) (pe_tup (pa_cons (pe_dget (hu_of hr) (pv 7) (pv 5) (fun _ _ => rfl)) pa_nil)))))))))))), ?_⟩
  have hn : (z.length : Int) ≤ 12 := by have := zk.le; omega
  have hz := Nat.le_trans zk.le (show 12 ≤ sizeLine by decide)
  refine sAsg (eLst (ds := ([("shut" : Str), "one", "two"]).map .str) (gaCons gStr (gaCons gStr (gaCons gStr gaNil)))) sS fun sv S1 H1 g1 hsv => ?_
  refine sAsg (gLcE eKy inOpn eKy (fun ks => ks.Perm (keysL (z.length : Int))) (callKeys (gLenS (gV (.str z)) hz) (by omega)) (fun l hl => ?_) fun l hl x hx u S1 e hu => turnN rfl ?_ fun _ => gV hu) g1.sh fun iv S2 H2 g2 hi => ?_
  · have h1 := keysL_len (n := (z.length : Int)) (by omega)
    rw [hl.length_eq]
    exact Nat.le_trans h1 (by decide)
  · refine gTest (GD.is (gNeD (gIxT (gV hu) gInt (atI_nat (j := 0) rfl)) gStr (sh_str (kdS_ok x.1)) (sh_str (kdS_ok .opn)) (b := decide (kdS x.1 = kdS .opn)) (by rw [PyData.eqv, Bool.eq_iff_iff]; simp; rfl)) ?_)
    unfold inOpn
    obtain ⟨kd, i, j⟩ := x
    cases kd <;> rfl
  obtain ⟨ks, hp, hi⟩ := hi
  have hsv2 := hsv.mono g2.ss
  have kl : (ks.filter inOpn).length ≤ 1000 := by
    have h1 := keysL_len (n := (z.length : Int)) (by omega)
    have h2 := hp.length_eq
    have h3 := List.length_filter_le inOpn ks
    omega
  refine sAsg (gSorted (R := fun S' x => ∃ ms : List Ky, ms.Perm (ks.filter inOpn) ∧ DD S' x (.list (ms.map e4))) (gLc1 (ks.filter inOpn) eKy e4 (gV hi) (Nat.le_trans kl (by decide)) fun x hx u S1 e hu => turnN rfl gYes fun _ => ?_) (srt_e4 _) fun S' v' ds' e hp' _ hd' => ?_) g2.sh fun ov S3 H3 g3 ho => ?_
  · obtain ⟨kd, i, j⟩ := x
    have hno := of_decide_eq_true (List.mem_filter.mp hx).2
    have hs := hsv2.mono e
    refine eTup (gaCons (eSub gInt (gIxT (gV hu) gInt (atI_nat (j := 1) rfl))) (gaCons (gIxT (gV hu) gInt (atI_nat (j := 2) rfl)) (gaCons ?_ (gaCons (gV hu) gaNil))))
    cases kd with
    | opn => exact absurd rfl hno
    | shut => exact gIndexL (j := 0) (gV hs) (gIxT (gV hu) gInt (atI_nat (j := 0) rfl)) rfl (fun m hm => by omega)
    | one => exact gIndexL (j := 1) (gV hs) (gIxT (gV hu) gInt (atI_nat (j := 0) rfl)) rfl tf1
    | two => exact gIndexL (j := 2) (gV hs) (gIxT (gV hu) gInt (atI_nat (j := 0) rfl)) rfl tf2
  · obtain ⟨l', p, rfl⟩ := perm_map_inv hp'
    exact ⟨l', p, hd'⟩
  obtain ⟨ms, hmp, ho⟩ := ho
  have g123 := (g1.trans g2).trans g3
  refine sNewT fun o no => ?_
  have g0 : Gr [] S3 H3 S3 (upd H3 o (.dT [])) := Gr.priv g3.sh no
  have nS : S3 o = none := g3.sh.free no
  have oH : H o = none := g123.same.free no
  have hop := order_perm (n := (z.length : Int)) (by omega) hp hmp
  generalize hos : ms ++ (drange (z.length : Int) ((z.length : Int) + 1).toNat).map (fun x => ((Kd.opn, x, (z.length : Int) - 1) : Ky)) = os at hop
  have nd : os.Nodup := hop.nodup_iff.mpr (keysL_nodup _)
  have ml : ms.length ≤ 1000 := by rw [hmp.length_eq]; exact kl
  have hR3 := hR.mono g123.ss
  have hC3 := mDT _ _ _ _ g123.ss hC
  refine fForL [o] os eKy (fun i σ' S' H' => ∃ e5 e8 e9 e10 e11 e12 e13 kvs Kt, σ' = [some v, some (.str z), some cv, some sv, some iv, e5, some ov, some (.ref o), e8, e9, e10, e11, e12, e13] ∧ S' o = none ∧ H' o = some (.dT kvs) ∧ DictIs kvs (os.take i) Kt)
    (GD.is (gAddL (gLc1 ms e4 eKy (gV ho) (Nat.le_trans ml (by decide)) fun x hx u S1 e hu => turnN rfl gYes fun _ => gIxT (gV hu) gInt (atI_nat (j := 3) rfl)) (gLcD (fun x => eKy (.opn, x, (z.length : Int) - 1)) (gaCons (gLenS (gV (.str z)) hz) (gaCons (gNeg gInt) (gaCons (gNeg gInt) gaNil))) (by omega) fun x h1 h2 S5 e5 => turnN rfl gYes fun _ => eTup (gaCons gStr (gaCons (gV (.int x)) (gaCons (eSub (gLenS (gV (.str z)) hz) gInt) gaNil)))) ?_) ?_) g0.sh
    (fun S4 H4 g4 => ⟨_, _, _, _, _, _, _, [], fun _ => none, rfl, g4.hide' nS upd_same, g4.same _ _ upd_same, DictIs.nil⟩) (fun i key u σ' S' H' N hx g hu hI hN => ?_) fun σ' S' H' g hI => ?_
  · simp only [List.length_map, drange, List.length_range]
    exact Nat.le_trans (show _ ≤ 2000 by omega) (by decide)
  · rw [← hos, List.map_append, List.map_map]
    have e1 : (z.length : Int) - -1 = (z.length : Int) + 1 := by omega
    rw [e1]
    rfl
  · obtain ⟨e5, e8, e9, e10, e11, e12, e13, kvs, Kt, rfl, n', eo, hD⟩ := hI
    have hin : key ∈ keysL (z.length : Int) := hop.mem_iff.mp (List.mem_of_getElem? hx)
    have hik := mem_keysL.mp hin
    have hl := hD.len
    have hlen : (os.take i).length ≤ 1000 := by
      rw [List.length_take]
      have := keysL_len (n := (z.length : Int)) (by omega)
      have := hop.length_eq
      omega
    have hnot : key ∉ os.take i := fun z => by
      obtain ⟨m, hm, e⟩ := List.mem_iff_getElem.mp z
      rw [List.length_take] at hm
      have h1 : os[m]? = some key := by
        rw [List.getElem_take] at e
        rw [List.getElem?_eq_getElem (by omega), e]
      have := nd_ix nd h1 hx
      omega
    -- the dict told within the turn
    have sx := tellS g.sh eo
    have su : Same S' (upd S' o (.dT kvs)) := same_upd' n'
    have hRx := hR3.mono (g.ss.trans su)
    have hux := hu.mono su
    have hCx := mDT _ _ _ _ (g.ss.trans su) hC3
    have hdx : IsDT kvs (upd S' o (.dT kvs)) (.ref o) := ⟨o, rfl, upd_same⟩
    refine sAsg (gLcX (β := Option Int) eWay (fun ws => ws.length ≤ 2000) (fun _ => True) oD 2000 (gCall (RP := R_lways) (R := Ways) ((gA3 (mR r) (mD (.str z)) (gRul hRx) (gV (.str z)) (gV hux)).weak fun S4 vs a hv => ?_)) (fun l hl => hl) (by decide) fun l hl wy hwy uy S4 e hwu => turnX2 hwu fun x y hx hy => ⟨rfl, gYes, ?_⟩) sx fun av S5 H5 g5 ha => ?_
    · obtain ⟨x1, x2, x3, rfl, hx1, hx2, hx3⟩ := hv
      cases hx2
      exact ⟨x1, x3, r, z, key, rfl, hx1, ok, zk, hx3, hik, rfl⟩
    · cases hx
      refine (gCall (RP := R_lcome) (R := fun S' x => ∃ o, DD S' x (oD o)) ((gA3 (mDT kvs) (mD (.int wy.1)) (gvI (mDT kvs) (mDT kvs _ _ _ e hdx)) (gV (.int wy.1)) (gV hy)).weak fun S5 vs a hv => ?_)).weak fun S5 v5 _ h5 => by obtain ⟨o, h⟩ := h5; exact ⟨o, trivial, h⟩
      obtain ⟨x1, x2, x3, rfl, hx1, hx2, hx3⟩ := hv
      cases hx2
      exact ⟨x1, x3, wy.1, wy.2, kvs, rfl, hx1, hD.ok, hx3, rfl⟩
    obtain ⟨ys, _, yl, ha⟩ := ha
    have hC5 := mDT _ _ _ _ g5.ss hCx
    have hu5 := hux.mono g5.ss
    refine sAsg (gLc (ys ++ [tabV kvc key]) oD (fun o => !o.isNone) oD (GD.is (gAddL (gV ha) (eLst (gaCons (gGetT2 (k := kyL key) (R := fun S' x => DD S' x (oD (tabV kvc key))) (gvI (mDT _) hC5) (gV hu5) gNon fun S' _ => by rw [tabV_get okc]; exact DD_oD _) gaNil)) ?_) (by rw [List.map_append]; rfl)) ?_ fun o ho u6 S6 e hu6 => turnN rfl (gB (GD.is (gNotN (gV hu6)) (by rw [noneD_oD]))) fun _ => gV hu6) g5.sh fun bv S6 H6 g6 hb => ?_
    · rw [List.length_map]
      exact Nat.le_trans (show _ ≤ 3000 by simp only [List.length_cons, List.length_nil]; omega) (by decide)
    · rw [List.length_append]
      exact Nat.le_trans (show _ ≤ 3000 by simp only [List.length_cons, List.length_nil]; omega) (by decide)
    rw [somes] at hb
    generalize hns : (ys ++ [tabV kvc key]).filterMap id = ns at hb
    refine sPutT2 (R := fun S' x => ∃ o, DD S' x (oD o)) (k := kyL key) mOD (gIf (b := ns.isEmpty) (gTest (GD.is (gEqD (gV hb) (eLst gaNil) (sh_ints ns) (by decide +kernel) (eqv_list0 _)) (by rw [List.isEmpty_map]))) (fun _ => gNon.weak fun _ _ _ h => ⟨none, h⟩) fun he => gMinL (gV hb) ?_ fun S' m _ _ _ => ⟨some m, .int m⟩) (gvI (mV _) rfl) (gV (hu5.mono g6.ss)) g6.sh ((g5.trans g6).ss _ _ upd_same) (Nat.lt_of_le_of_lt (Nat.le_trans hl hlen) (by decide)) fun wv S7 H7 g7 hw => ?_
    · cases ns with
      | nil => cases he
      | cons a l => exact Nat.succ_pos _
    · obtain ⟨w', hw2⟩ := hw
      obtain rfl := oD_V hw2
      refine hN _ S' _ (((g5.trans g6).trans g7).forget g.sh n') ⟨_, _, _, _, _, _, _, _, setT Kt key w', rfl, n', upd_same, ?_⟩
      rw [List.take_add_one, hx]
      exact hD.put hnot
  · obtain ⟨e5, e8, e9, e10, e11, e12, e13, kvs, Kt, rfl, n', eo, hD⟩ := hI
    rw [List.take_length] at hD
    have hD := hD.perm hop
    have G := (Gr.over1 (g123.trans g0) g oH).tell oH n' eo
    refine sRet (gLcE eKy (fun _ => true) (fun key => eRow key (Kt key)) (fun ks => ks.Perm (keysL (z.length : Int))) (callKeys (gLenS (gV (.str z)) hz) (by omega)) (fun l hl => ?_) fun l hl key hkey u4 S4 e hu => turnN rfl gYes fun _ => ?_) G.sh fun v5 S5 H5 g5 h5 => ?_
    · have h1 := keysL_len (n := (z.length : Int)) (by omega)
      rw [hl.length_eq]
      exact Nat.le_trans h1 (by decide)
    · exact gAddT (ds := [.str (kdS key.1), .int key.2.1, .int key.2.2]) (es := [oD (Kt key)]) (gV hu) (eTup (gaCons (gAtT (k := kyL key) (gvI (mDT kvs) (mDT kvs _ _ _ e ⟨o, rfl, upd_same⟩)) (gV hu) (hD.val key (hl.mem_iff.mp hkey)) fun _ _ => DD_oD _) gaNil)) (by show 3 + 1 ≤ sizeLine; decide)
    · obtain ⟨ks2, hp2, hd5⟩ := h5
      rw [filter_tt] at hd5
      exact q v5 S5 H5 (G.trans g5) ⟨ks2, Kt, hp2, hd5⟩
end
end PF
-- part PfL7
set_option Elab.async false
set_option linter.all false
set_option maxRecDepth 100000
set_option maxHeartbeats 4000000
namespace PF
open PySem PySem.Spec PyProof.Rows L2
theorem sc_law_below : FnScope ["_law_given", "_law_writ_here", "_law_rows", "_law_listed_so", "_law_known", "_law_row", "_law_last", "_law_one", "_law_i", "_law_j", "_law_inner_so", "_law_two", "_law_later_so", "_law_there"] ["_law_given", "_law_writ_here", "_law_rows", "_law_listed_so"] (defScope s_law_below) := ⟨rfl, rfl, rfl, by decide +kernel, rfl, by decide +kernel, by decide +kernel⟩
def rDictL (K : PySem.W.Frag) : List V → Hp → VK → Prop := fun xs H Q => ∃ (a : Addr) (ps : List Addr) (es : List TEnt), xs = [.ref a] ∧ SqL K H a (ps.map V.ref) ∧ Paired (TEntAt K H) ps es ∧ (es.map (·.k)).Nodup ∧
    ∀ d, H d = none → Q (.ref d) (upd H d (.dT (es.map fun e => (e.k, e.v))))
theorem call_dictL' {X : Cx} (hc : X.calm = true) (hu : X.A.units + 64 < cLine) : CallR X (.type "dict") (rDictL X.K) := call_dictLT hc (by omega)
/-- rows' table -/
def Tr (T : Tb) (ks : List Ky) : Tb := fun k => if k ∈ ks then T k else none
def rowsK (ks : List Ky) (T : Tb) : Kvs := ks.map fun k => (kyL k, oV (T k))
theorem valV_rows (T : Tb) : ∀ (ks : List Ky) (k : Ky), valV (rowsK ks T) (kyL k) = if k ∈ ks then some (oV (T k)) else none
  | [], k => rfl
  | a :: ks, k => by
    have e : rowsK (a :: ks) T = (kyL a, oV (T a)) :: rowsK ks T := rfl
    rw [e]
    by_cases h : a = k
    · subst h
      rw [valV_pos rfl, if_pos List.mem_cons_self]
    · rw [valV_neg (fun z => h (kyL_inj z)), valV_rows T ks k]
      by_cases hk : k ∈ ks
      · rw [if_pos hk, if_pos (List.mem_cons_of_mem _ hk)]
      · rw [if_neg hk, if_neg (fun z => (List.mem_cons.mp z).elim (fun z => h z.symm) hk)]
theorem rows_dict (T : Tb) (ks : List Ky) : DictIs (rowsK ks T) ks (Tr T ks) :=
  ⟨fun k hk => by rw [valV_rows, if_pos hk]; unfold Tr; rw [if_pos hk], fun k hk => by rw [valV_rows, if_neg hk], fun p hp => by
    obtain ⟨k, _, rfl⟩ := List.mem_map.mp hp
    exact ⟨_, rfl⟩, by unfold rowsK; rw [List.length_map]; exact Nat.le_refl _, fun k hk => by unfold Tr; rw [if_neg hk]⟩
theorem rows_len {n : Int} {ks : List Ky} (hp : ks.Perm (keysL n)) (hn : 0 ≤ n ∧ n ≤ 12) : ks.length ≤ 1000 := by rw [hp.length_eq]; exact keysL_len hn
section
variable {P : Program} {w : World} {K : PySem.W.Frag} {mg : Str → Option Value} {base : Heap} {S H : Hp} {σ : L2.St} {ta tb tc tl te td ty tv : TE} {tt : TT} {g : TG} {vs : List Nat} {D : Ends}
def eEnt (k : Ky) (o : Option Int) : PyData := .tuple [eKy k, oD o]
theorem ents_of {S3 H : Hp} (b : Same S3 H) (T : Tb) : ∀ {ks : List Ky} {xs : List V}, DDs S3 xs (ks.map fun k => eEnt k (T k)) → ∃ (ps : List Addr) (es : List TEnt), xs = ps.map V.ref ∧ Paired (TEntAt K H) ps es ∧ es.map (·.k) = ks.map kyL ∧ (es.map fun e => (e.k, e.v)) = rowsK ks T
  | [], _, h => by cases h; exact ⟨[], [], rfl, .nil, rfl, rfl⟩
  | k :: ks, _, h => by
    cases h with
    | cons h1 h2 =>
      obtain ⟨ps, es, rfl, hp, e1, e2⟩ := ents_of b T h2
      obtain ⟨p, ys, rfl, a1, a2⟩ := h1.tupE
      obtain ⟨y1, r1, rfl, k1, a2⟩ := a2.consE
      obtain ⟨y2, r2, rfl, k2, a2⟩ := a2.consE
      cases a2
      obtain rfl := oD_V k2
      obtain ⟨q, zs, rfl, b1, b2⟩ := k1.tupE
      have hz : zs = (kyL k).map kV := DDs.keys (k := kyL k) b2
      subst hz
      exact ⟨p :: ps, ⟨q, kyL k, oV (T k)⟩ :: es, rfl, .cons ⟨SqT.of (b _ _ a1), b _ _ b1⟩ hp, by rw [List.map_cons, List.map_cons, e1], by
        rw [List.map_cons, e2]
        rfl⟩
theorem gDictL {T : Tb} {ks : List Ky} (h : GD te σ S (.list (ks.map fun k => eEnt k (T k)))) (nd : ks.Nodup) : Gv (tCB (rDictL K) (tCons te tNil)) σ S (IsDT (rowsK ks T)) := gCB (ga1 h) fun S2 vs a hv S3 H a3 b Q k => by
  obtain ⟨v, rfl, hv⟩ := hv
  obtain ⟨p, xs, rfl, h1, h2⟩ := hv.lstE
  obtain ⟨ps, es, rfl, hp, e1, e2⟩ := ents_of (K := K) b T (h2.mono a3)
  refine ⟨p, ps, es, rfl, SqL.of (b _ _ (a3 _ _ h1)), hp, ?_, fun d hd => ?_⟩
  · rw [e1, List.nodup_iff_pairwise_ne, List.pairwise_map]
    exact List.Pairwise.imp (fun {x y} h e => h (kyL_inj e)) nd
  · rw [e2]
    exact k _ _ _ (Gr.new b hd) ⟨d, rfl, upd_same⟩
/-- dict([(row[:3], row[3]) for row in rows]) -/
theorem gDictRows {T : Tb} {ks : List Ky} {j : Nat} (h : GD tl σ S (rowsD ks T)) (nd : ks.Nodup) (hl : ks.length ≤ 1000) (hw : ∀ x, wipe ((wipe σ vs).set j (some x)) vs = wipe σ vs) (hj : ∀ x, ((wipe σ vs).set j (some x))[j]? = some (some x)) :
    Gv (tCB (rDictL K) (tCons (tLc (iList K tl) (gName j) tYes (tTup (tCons (tSl (rSl2 K) (tVar j) tNoPart (tPart (tC (.int 3)))) (tCons (tOp (rIx K) (tVar j) (tC (.int 3))) tNil))) vs) tNil)) σ S (IsDT (rowsK ks T)) :=
  gDictL (gLc1 ks (fun k => eRow k (T k)) (fun k => eEnt k (T k)) h (Nat.le_trans hl (by decide)) fun k hk u S1 e hu => turnN (hw u) gYes fun _ => eTup (ds := [eKy k, oD (T k)]) (gaCons (GD.is (gSlT (gV hu (hj u)) goNo (goPart gInt)) rfl) (gaCons (gIxT (gV hu (hj u)) gInt (atI_nat (j := 3) rfl)) gaNil))) nd
theorem gChain {f f' : Int → Int → Bool} {i j k : Int} (ha : GD ta σ S (.int i)) (hb : GD tb σ S (.int j)) (hc : GD tc σ S (.int k)) : GD (tChain (rI0 fun i j => .bl (f i j)) (rI0 fun i j => .bl (f' i j)) ta tb tc) σ S (.bool (f i j && f' j k)) := fun S1 H a b Q q =>
  ha S1 H a b _ fun x S2 H2 g2 hx => hb S2 H2 (a.trans g2.ss) g2.sh _ fun y S3 H3 g3 hy => by
    cases hx; cases hy
    refine ⟨i, j, rfl, rfl, f i j, rfl, ?_⟩
    cases h : f i j with
    | false => exact iteF (q _ S3 H3 (g2.trans g3) (show DD S3 (.bl false) (.bool (f i j && f' j k)) by rw [h]; exact .bl false))
    | true => exact iteT (hc S3 H3 ((a.trans g2.ss).trans g3.ss) g3.sh _ fun w S4 H4 g4 hw => by
        cases hw
        exact ⟨j, k, rfl, rfl, q _ S4 H4 ((g2.trans g3).trans g4) (show DD S4 (.bl (f' j k)) (.bool (f i j && f' j k)) by rw [h]; exact .bl _)⟩)
theorem prOk_fold {r : Rl} {z : Str} {f : List Pr} (hz : z.length ≤ 12) (t : Fold (gOf r z) 0 ((z.length : Int) - 1) f) : PrOk (gOf r z) f :=
  ⟨t.rising, by have := t.len; omega, fun a ha => by
    have := t.in_ a ha
    have hn : (gOf r z).n = (z.length : Int) := rfl
    omega, t.fits⟩
def R_below : Hp → List V → (Hp → V → Prop) → Prop := fun S vs Post => ∃ (v rv lv : V) (r : Rl) (z : Str) (ks : List Ky) (T : Tb) (ls : List (List Pr)), vs = [v, .str z, rv, lv] ∧ RulesAt S v r ∧ RlOk r ∧ ZOk z ∧ ks.Perm (keysL (z.length : Int)) ∧ DD S rv (rowsD ks T) ∧ DD S lv (.list (ls.map eFo)) ∧
  (∀ f ∈ ls, Fold (gOf r z) 0 ((z.length : Int) - 1) f) ∧ Post = fun S' x => ∃ b, DD S' x (.bool b) ∧ ((∀ f ∈ ls, Below (gOf r z) (Tr T ks) f) → b = true)
/-- a look-up that is at most y -/
theorem atMost_test {o : Option Int} {y : Int} : (o.isNone || (match o with | some x => decide (y < x) | none => false)) = false ↔ ∃ x, o = some x ∧ x ≤ y := by
  cases o with
  | none => simp
  | some x => simp
/-- known[k] is None or known[k] > e -/
theorem gTooMuch {kvs : Kvs} {ds : List Ky} {T : Tb} {dv : V} {tk1 tk2 : TE} {i : Nat} {key : Ky} {y : Int} (hD : DictIs kvs ds T) (hk : key ∈ ds) (hd : IsDT kvs S dv) (h1 : GD tk1 σ S (eKy key)) (h2 : GD tk2 σ S (eKy key)) (he : GD te σ S (.int y)) (hi : σ[i]? = some (some dv) := by rfl) :
    GT (tOr (tB (tIsN (tDGet (tVar i) tk1))) (tTest (tOp (rI0 fun i j => .bl (decide (j < i))) (tDGet (tVar i) tk2) te))) σ S ((T key).isNone || (match T key with | some x => decide (y < x) | none => false)) := by
  have a1 : GD (tDGet (tVar i) tk1) σ S (oD (T key)) := gAtT (k := kyL key) (gvI (mDT _) hd hi) h1 (hD.val key hk) fun _ _ => DD_oD _
  have a2 : GD (tDGet (tVar i) tk2) σ S (oD (T key)) := gAtT (k := kyL key) (gvI (mDT _) hd hi) h2 (hD.val key hk) fun _ _ => DD_oD _
  have b1 := gIsN a1
  rw [noneD_oD] at b1
  refine gOr (gB b1) fun hn => ?_
  cases e : T key with
  | none => rw [e] at hn; cases hn
  | some x =>
    rw [e] at a2
    exact gTest (gCmpI (f := fun i j => decide (j < i)) a2 he)
theorem ok_law_below {f : Addr} {fd : FuncData} {k : Nat} (F : Fun K "_law_below" "_law_below" s_law_below f fd) (B : BI mg) (c_law_whole : Ok P w K mg base "_law_whole" ["_law_given", "_law_writ_here", "_law_pairs_so"] 4 (spP R_whole)) (c_law_shut : Ok P w K mg base "_law_shut" ["_law_given", "_law_writ_here", "_law_pairs_so"] 3 (spP R_shut)) (hk : 4 ≤ k) :
    FnOk P w K mg base CX0 (k + 1) f fd ["_law_given", "_law_writ_here", "_law_rows", "_law_listed_so"] (spP R_below) := by
  refine okP F sc_law_below (fun S vs Post h => by obtain ⟨v, rv, lv, r, z, ks, T, ls, rfl, _⟩ := h; rfl) fun cdv A outer s H S vs Post Q E hr sS h q => ?_
  obtain ⟨v, rv, lv, r, z, ks, T, ls, rfl, hR, ok, zk, hp, hrv, hlv, hls, rfl⟩ := h
  refine ⟨_, (pss_cons (ps_set (i := 4) sc_law_below.nd rfl (by first | exact .inl rfl | exact .inr rfl) (pe_callTy (call_dictL' rfl hr.units) (by rfl) B.dict (by decide +kernel) (pa_cons (pe_lc (own := [("_law_row", 5)]) (g := (gName 5)) (by rfl) sc_law_below.nd (pi_list (pv 2)) (blkOk_by (own := [("_law_row", 5)]) (N := ["_law_given", "_law_writ_here", "_law_rows", "_law_listed_so", "_law_known", "_law_row", "_law_last", "_law_one", "_law_i", "_law_j", "_law_inner_so", "_law_two", "_law_later_so", "_law_there"]) (sc := defScope s_law_below) (by decide +kernel)) (fun _ _ _ _ _ => (pg_name (i := 5) sc_law_below.nd rfl (by first | exact .inl rfl | exact .inr rfl))) (fun _ _ _ _ _ => pts_nil) (fun _ _ _ _ _ => (pe_tup (pa_cons (pe_slice (sl_2 : SlR _ (rSl2 K)) (pv 5) po_none (po_some pe_int)) (pa_cons (pe_ix (ix_seq : IxR _ (rIx K)) (pv 5) pe_int (fun _ _ => rfl)) pa_nil))))) pa_nil)))
      (pss_cons (ps_set (i := 6) sc_law_below.nd rfl (by first | exact .inl rfl | exact .inr rfl) (pe_op op_sub (pe_callB (call_lenA : CallR _ _ (rLenA K)) (by rfl) B.len (by decide +kernel) (pa_cons (pv 1) pa_nil)) pe_int))
      (pss_cons (ps_for PassesOwn.never rfl (pi_list (pv 3)) (pg_name (i := 7) sc_law_below.nd rfl (by first | exact .inl rfl | exact .inr rfl)) (pss_cons (ps_if (PW.pt (pw_or (pt_cmp (pc_isN (pe_dget (hu_of hr) (pv 4) (pe_tup (pa_cons pe_str (pa_cons pe_int (pa_cons (pv 6) pa_nil)))) (fun _ _ => rfl))) rfl) (pw_or1 (pt_cmpR op_gt (pe_dget (hu_of hr) (pv 4) (pe_tup (pa_cons pe_str (pa_cons pe_int (pa_cons (pv 6) pa_nil)))) (fun _ _ => rfl)) (pe_ok c_law_whole (hr.mono (by omega)) (by rfl) (pa_cons (pv 0) (pa_cons (pv 1) (pa_cons (pv 7) pa_nil)))) (nomark _))))) (pss_one (ps_ret pe_bl)) pss_nil)
      (pss_one (ps_for PassesOwn.never rfl (pi_list (pv 7)) (pg_tup (by rfl) (pgs_cons (pg_name (i := 8) sc_law_below.nd rfl (by first | exact .inl rfl | exact .inr rfl)) (pgs_cons (pg_name (i := 9) sc_law_below.nd rfl (by first | exact .inl rfl | exact .inr rfl)) pgs_nil))) (pss_cons (ps_setLc (i := 10) (own := [("_law_two", 11)]) (g := (gName 11)) (by rfl) sc_law_below.nd rfl rfl (sw_true rfl rfl rfl (by decide +kernel)) (pi_list (pv 7)) (blkOk_by (own := [("_law_two", 11)]) (N := ["_law_given", "_law_writ_here", "_law_rows", "_law_listed_so", "_law_known", "_law_row", "_law_last", "_law_one", "_law_i", "_law_j", "_law_inner_so", "_law_two", "_law_later_so", "_law_there"]) (sc := defScope s_law_below) (by decide +kernel)) (fun _ _ _ _ _ => (pg_name (i := 11) sc_law_below.nd rfl (by first | exact .inl rfl | exact .inr rfl))) (fun _ _ _ _ _ => (pts_one (PW.pt (pw_and (pt_cmpR op_le (pv 8) (pe_ix (ix_seq : IxR _ (rIx K)) (pv 11) pe_int (fun _ _ => rfl)) (nomark _)) (pw_and1 (pt_cmpR op_le (pe_ix (ix_seq : IxR _ (rIx K)) (pv 11) pe_int (fun _ _ => rfl)) (pv 9) (nomark _))))))) (fun _ _ _ _ _ => (pv 11)))
      (pss_cons (ps_if (PW.pt (pw_or (pt_cmp (pc_isN (pe_dget (hu_of hr) (pv 4) (pe_tup (pa_cons pe_str (pa_cons (pv 8) (pa_cons (pv 9) pa_nil)))) (fun _ _ => rfl))) rfl) (pw_or1 (pt_cmpR op_gt (pe_dget (hu_of hr) (pv 4) (pe_tup (pa_cons pe_str (pa_cons (pv 8) (pa_cons (pv 9) pa_nil)))) (fun _ _ => rfl)) (pe_ok c_law_shut (hr.mono (by omega)) (by rfl) (pa_cons (pv 0) (pa_cons (pv 1) (pa_cons (pv 10) pa_nil)))) (nomark _))))) (pss_one (ps_ret pe_bl)) pss_nil)
      (pss_one (ps_if (pt_cmpR (op_eqD hr.units : OpR _ _ (rEqD K)) (pe_lc (own := [("_law_two", 11)]) (g := (gName 11)) (by rfl) sc_law_below.nd (pi_list (pv 7)) (blkOk_by (own := [("_law_two", 11)]) (N := ["_law_given", "_law_writ_here", "_law_rows", "_law_listed_so", "_law_known", "_law_row", "_law_last", "_law_one", "_law_i", "_law_j", "_law_inner_so", "_law_two", "_law_later_so", "_law_there"]) (sc := defScope s_law_below) (by decide +kernel)) (fun _ _ _ _ _ => (pg_name (i := 11) sc_law_below.nd rfl (by first | exact .inl rfl | exact .inr rfl))) (fun _ _ _ _ _ => (pts_one (pt_chain op_lt op_le (pe_ix (ix_seq : IxR _ (rIx K)) (pv 11) pe_int (fun _ _ => rfl)) (pv 8) (pe_ix (ix_seq : IxR _ (rIx K)) (pv 11) pe_int (fun _ _ => rfl))))) (fun _ _ _ _ _ => (pv 11))) (pe_lst pa_nil) (nomark _)) (pss_cons (ps_setLc (i := 12) (own := [("_law_two", 11)]) (g := (gName 11)) (by rfl) sc_law_below.nd rfl rfl (sw_true rfl rfl rfl (by decide +kernel)) (pi_list (pv 7)) (blkOk_by (own := [("_law_two", 11)]) (N := ["_law_given", "_law_writ_here", "_law_rows", "_law_listed_so", "_law_known", "_law_row", "_law_last", "_law_one", "_law_i", "_law_j", "_law_inner_so", "_law_two", "_law_later_so", "_law_there"]) (sc := defScope s_law_below) (by decide +kernel)) (fun _ _ _ _ _ => (pg_name (i := 11) sc_law_below.nd rfl (by first | exact .inl rfl | exact .inr rfl))) (fun _ _ _ _ _ => (pts_one (pt_cmpR op_ge (pe_ix (ix_seq : IxR _ (rIx K)) (pv 11) pe_int (fun _ _ => rfl)) (pv 8) (nomark _)))) (fun _ _ _ _ _ => (pv 11)))
      (pss_cons (ps_set (i := 13) sc_law_below.nd rfl (by first | exact .inl rfl | exact .inr rfl) (pe_dget (hu_of hr) (pv 4) (pe_tup (pa_cons pe_str (pa_cons (pv 8) (pa_cons (pv 6) pa_nil)))) (fun _ _ => rfl)))
      (pss_one (ps_if (PW.pt (pw_or (pt_cmp (pc_isN (pv 13)) rfl) (pw_or1 (pt_cmpR op_gt (pv 13) (pe_ok c_law_whole (hr.mono (by omega)) (by rfl) (pa_cons (pv 0) (pa_cons (pv 1) (pa_cons (pv 12) pa_nil)))) (nomark _))))) (pss_one (ps_ret pe_bl)) pss_nil)))) pss_nil))))))))
      (pss_one (ps_ret pe_bl))))), ?_⟩
  have hn : (z.length : Int) ≤ 12 := by have := zk.le; omega
  have hz := Nat.le_trans zk.le (show 12 ≤ sizeLine by decide)
  have nd : ks.Nodup := hp.nodup_iff.mpr (keysL_nodup _)
  have hD := rows_dict T ks
  refine sAsg (gDictRows (gV hrv) nd (rows_len hp (by omega)) (fun x => rfl) fun x => rfl) sS fun dv S1 H1 g1 hd => ?_
  refine sAsg (eSub (gLenS (gV (.str z)) hz) gInt) g1.sh fun nv S2 H2 g2 hnv => ?_
  cases hnv
  have hll : (ls.map eFo).length = ls.length := List.length_map ..
  generalize hg : gOf r z = G at *
  have hgn : G.n = (z.length : Int) := by rw [← hg]; rfl
  refine fForL [] ls eFo (fun t σ' S' H' => ∃ e7 e8 e9 e10 e12 e13, σ' = [some v, some (.str z), some rv, some lv, some dv, none, some (.int ((z.length : Int) - 1)), e7, e8, e9, e10, none, e12, e13]) (gV (hlv.mono (g1.ss.trans g2.ss))) g2.sh (fun S3 H3 g3 => ⟨_, _, _, _, _, _, rfl⟩) (fun t fo u σ' S' H' N hx g hu hI hN => ?_) fun σ' S' H' g hI => ?_
  · obtain ⟨e7, e8, e9, e10, e12, e13, rfl⟩ := hI
    have hmem := List.mem_of_getElem? hx
    have hfold := hls fo hmem
    have hpr : PrOk (gOf r z) fo := prOk_fold zk.le (by rw [hg]; exact hfold)
    have sx := (g1.ss.trans g2.ss).trans g.ss
    have hRx := hR.mono sx
    have hdx := mDT _ _ _ _ (g2.ss.trans g.ss) hd
    have bad : ∀ {S5 H5 : Hp}, Gr [] S' H' S5 H5 → ¬ Below G (Tr T ks) fo → Q (.bl false) H5 := fun g5 hb => q _ _ _ (((g1.trans g2).trans g).trans g5) ⟨false, .bl false, fun h => absurd (h fo hmem) hb⟩
    have k0 : ((Kd.opn, 0, (z.length : Int) - 1) : Ky) ∈ ks := hp.mem_iff.mpr (mem_keysL.mpr ⟨Int.le_refl _, by omega, rfl⟩)
    refine sIf (gTooMuch (key := (.opn, 0, (z.length : Int) - 1)) (y := wholeW (gOf r z) fo) hD k0 hdx (eTup (gaCons gStr (gaCons gInt (gaCons (gV (.int _)) gaNil)))) (eTup (gaCons gStr (gaCons gInt (gaCons (gV (.int _)) gaNil)))) (callWhole (gRul hRx) (gV (.str z)) (gV hu) ok zk hpr)) g.sh (fun hb S3 H3 g3 => ?_) fun hb S3 H3 g3 => ?_
    · refine sRet gBl g3.sh fun v' S5 H5 g5 h5 => ?_
      cases h5
      refine bad (g3.trans g5) fun hbel => ?_
      have h1 := hbel.1
      rw [hgn] at h1
      rw [hg] at hb
      rw [atMost_test.mpr h1] at hb
      cases hb
    refine fForL [] fo ePr (fun a σ2 S'' H'' => ∃ e8 e9 e10 e12 e13, σ2 = [some v, some (.str z), some rv, some lv, some dv, none, some (.int ((z.length : Int) - 1)), some u, e8, e9, e10, none, e12, e13]) (gV (hu.mono g3.ss)) g3.sh (fun S4 H4 g4 => ⟨_, _, _, _, _, rfl⟩) (fun a p pu σ2 S'' H'' N2 hpx g' hpu hI2 hN2 => ?_) fun σ2 S'' H'' g' hI2 => ?_
    · obtain ⟨e8, e9, e10, e12, e13, rfl⟩ := hI2
      obtain ⟨i, j⟩ := p
      have hpm := List.mem_of_getElem? hpx
      have hin := hfold.in_ _ hpm
      have g3' := g3.trans g'
      refine gt2 hpu g'.sh fun x y h1 h2 => ?_
      cases h1; cases h2
      have hR4 := hRx.mono g3'.ss
      have hd4 := mDT _ _ _ _ g3'.ss hdx
      have hu4 := hu.mono g3'.ss
      refine sAsg (gLc fo ePr (within i j) ePr (gV hu4) (Nat.le_trans hpr.le (by decide)) fun p2 hp2 u2 S6 e hu2 => turnN rfl (gAnd (gTest (gCmpI (f := fun i j => decide (i ≤ j)) (gV (.int i)) (gIxT (gV hu2) gInt (atI_nat (j := 0) rfl)))) fun _ => gTest (gCmpI (f := fun i j => decide (i ≤ j)) (gIxT (gV hu2) gInt (atI_nat (j := 1) rfl)) (gV (.int j)))) fun _ => gV hu2) g'.sh fun iv S5 H5 g5 hiv => ?_
      have hR5 := hR4.mono g5.ss
      have hd5 := mDT _ _ _ _ g5.ss hd4
      have k1 : ((Kd.shut, i, j) : Ky) ∈ ks := hp.mem_iff.mpr (mem_keysL.mpr ⟨by omega, by omega, by omega⟩)
      refine sIf (gTooMuch (key := (.shut, i, j)) (y := shutW (gOf r z) (fo.filter (within i j))) hD k1 hd5 (eTup (gaCons gStr (gaCons (gV (.int i)) (gaCons (gV (.int j)) gaNil)))) (eTup (gaCons gStr (gaCons (gV (.int i)) (gaCons (gV (.int j)) gaNil)))) (callShut (gRul hR5) (gV (.str z)) (gV hiv) ok zk (hpr.filter _))) g5.sh (fun hb2 S6 H6 g6 => ?_) fun hb2 S6 H6 g6 => ?_
      · refine sRet gBl g6.sh fun v' S7 H7 g7 h7 => ?_
        cases h7
        refine bad (g3'.trans (g5.trans (g6.trans g7))) fun hbel => ?_
        have h1 := (hbel.2 _ hpm).1
        rw [hg] at hb2
        rw [atMost_test.mpr h1] at hb2
        cases hb2
      have hu6 := (hu4.mono g5.ss).mono g6.ss
      have hR6 := hR5.mono g6.ss
      have hd6 := mDT _ _ _ _ g6.ss hd5
      refine sIf (gTest (gEqD (gLc fo ePr (fun r => decide (r.1 < i) && decide (i ≤ r.2)) ePr (gV hu6) (Nat.le_trans hpr.le (by decide)) fun p2 hp2 u2 S8 e hu2 => turnN rfl (gTest (gChain (f := fun i j => decide (i < j)) (f' := fun i j => decide (i ≤ j)) (gIxT (gV hu2) gInt (atI_nat (j := 0) rfl)) (gV (.int i)) (gIxT (gV hu2) gInt (atI_nat (j := 1) rfl)))) fun _ => gV hu2) (eLst gaNil) (sh_prs _) (by decide +kernel) (eqv_list0 _))) g6.sh (fun hb3 S7 H7 g7 => ?_) fun hb3 S7 H7 g7 => ?_
      · have hu7 := hu6.mono g7.ss
        have hR7 := hR6.mono g7.ss
        refine sAsg (gLc fo ePr (from_ i) ePr (gV hu7) (Nat.le_trans hpr.le (by decide)) fun p2 hp2 u2 S8 e hu2 => turnN rfl (gTest (gCmpI (f := fun i j => decide (j ≤ i)) (gIxT (gV hu2) gInt (atI_nat (j := 0) rfl)) (gV (.int i)))) fun _ => gV hu2) g7.sh fun lv2 S8 H8 g8 hlv2 => ?_
        have k2 : ((Kd.opn, i, (z.length : Int) - 1) : Ky) ∈ ks := hp.mem_iff.mpr (mem_keysL.mpr ⟨by omega, by omega, rfl⟩)
        have hd8 := mDT _ _ _ _ (g7.ss.trans g8.ss) hd6
        refine sAsg (gAtT (R := fun S' x => DD S' x (oD (Tr T ks (.opn, i, (z.length : Int) - 1)))) (k := kyL (.opn, i, (z.length : Int) - 1)) (gvI (mDT _) hd8) (GD.is (eTup (gaCons gStr (gaCons (gV (.int i)) (gaCons (gV (.int ((z.length : Int) - 1))) gaNil)))) rfl) (hD.val _ k2) fun _ _ => DD_oD _) g8.sh fun tv S9 H9 g9 htv => ?_
        have b1 : GD (tIsN (tVar 13)) _ S9 (.bool (Tr T ks (.opn, i, (z.length : Int) - 1)).isNone) := GD.is (gIsN (σ := [some v, some (.str z), some rv, some lv, some dv, none, some (.int ((z.length : Int) - 1)), some u, some (.int i), some (.int j), some iv, none, some lv2, some tv]) (gV htv)) (by rw [noneD_oD])
        refine sIf (b := (Tr T ks (.opn, i, (z.length : Int) - 1)).isNone || (match Tr T ks (.opn, i, (z.length : Int) - 1) with | some x => decide (wholeW (gOf r z) (fo.filter (from_ i)) < x) | none => false)) (gOr (gB b1) fun hnn => ?_) g9.sh (fun hb4 S10 H10 g10 => ?_) fun hb4 S10 H10 g10 => ?_
        · cases e : Tr T ks (.opn, i, (z.length : Int) - 1) with
          | none => rw [e] at hnn; cases hnn
          | some x =>
            rw [e] at htv
            exact gTest (gCmpI (f := fun i j => decide (j < i)) (gV htv) (callWhole (gRul (hR7.mono (g8.ss.trans g9.ss))) (gV (.str z)) (gV (hlv2.mono g9.ss)) ok zk (hpr.filter _)))
        · refine sRet gBl g10.sh fun v' S11 H11 g11 h11 => ?_
          cases h11
          refine bad (g3'.trans (g5.trans (g6.trans (g7.trans (g8.trans (g9.trans (g10.trans g11))))))) fun hbel => ?_
          have h1 := (hbel.2 _ hpm).2 ?_
          · rw [hgn] at h1
            rw [hg] at hb4
            rw [atMost_test.mpr h1] at hb4
            cases hb4
          · rw [List.isEmpty_map] at hb3
            exact List.isEmpty_iff.mp hb3
        · exact hN2 _ S10 _ (g5.trans (g6.trans (g7.trans (g8.trans (g9.trans g10))))) ⟨_, _, _, _, _, rfl⟩
      · exact hN2 _ S7 _ (g5.trans (g6.trans g7)) ⟨_, _, _, _, _, rfl⟩
    · obtain ⟨e8, e9, e10, e12, e13, rfl⟩ := hI2
      exact hN _ S'' _ (g3.trans g') ⟨_, _, _, _, _, _, rfl⟩
  · obtain ⟨e7, e8, e9, e10, e12, e13, rfl⟩ := hI
    show Q (.bl true) H'
    exact q _ _ _ ((g1.trans g2).trans g) ⟨true, .bl true, fun _ => rfl⟩
end
end PF
-- part PfN1
set_option Elab.async false
set_option linter.all false
set_option maxRecDepth 100000
set_option maxHeartbeats 4000000
namespace PF
open PySem PySem.Spec PyProof.Rows L2
theorem sc_law_draw : FnScope ["_law_pen_here", "_law_many", "_law_digit", "_law_here", "_law_cell", "_law_low", "_law_stirred"] ["_law_pen_here", "_law_many"] (defScope s_law_draw) := ⟨rfl, rfl, rfl, by decide +kernel, rfl, by decide +kernel, by decide +kernel⟩
/-- the pen at p -/
def PenAt (p cs : Addr) (ns : List Int) (n : Nat) (S H : Hp) : Prop := S p = none ∧ S cs = some (.lst (ns.map V.int)) ∧ ∃ k rest, H p = some (.lst [.ref cs, .int k, .int rest]) ∧ 0 ≤ k ∧ k ≤ (n : Int)
theorem PenAt.gr {p cs : Addr} {ns : List Int} {n : Nat} {S H S' H' : Hp} (h : PenAt p cs ns n S H) (g : Gr [] S H S' H') : PenAt p cs ns n S' H' := by
  obtain ⟨h1, h2, k, rest, h3, h4⟩ := h
  exact ⟨g.hide h1 h3, g.ss _ _ h2, k, rest, g.same _ _ h3, h4⟩
theorem PenAt.le {p cs : Addr} {ns : List Int} {n m : Nat} {S H : Hp} (h : PenAt p cs ns n S H) (e : n ≤ m) : PenAt p cs ns m S H := by
  obtain ⟨h1, h2, k, rest, h3, h4, h5⟩ := h
  exact ⟨h1, h2, k, rest, h3, h4, by omega⟩
def PB : Nat := 1000000
/-- a reading that may draw, at most c times -/
def Ge (p cs : Addr) (ns : List Int) (c : Nat) (t : TE) (σ : L2.St) (S0 : Hp) (R : Hp → V → Prop) : Prop := ∀ (n : Nat) (S H : Hp), Same S0 S → Same S H → PenAt p cs ns n S H → n + c ≤ PB → ∀ Q : VK, (∀ v S' H', Gr [p] S H S' H' → PenAt p cs ns (n + c) S' H' → R S' v → Q v H') → t σ H Q
def GeA (p cs : Addr) (ns : List Int) (c : Nat) (t : TA) (σ : L2.St) (S0 : Hp) (R : Hp → List V → Prop) : Prop := ∀ (n : Nat) (S H : Hp), Same S0 S → Same S H → PenAt p cs ns n S H → n + c ≤ PB → ∀ Q : List V → Hp → Prop, (∀ v S' H', Gr [p] S H S' H' → PenAt p cs ns (n + c) S' H' → R S' v → Q v H') → t σ H Q
/-- a promise that draws -/
def spE (c : Nat) (RP : Addr → Hp → List V → (Hp → V → Prop) → Prop) : Sp := fun vs H Q _ => ∃ (p cs : Addr) (ns : List Int) (n : Nat) (S : Hp) (Post : Hp → V → Prop), vs.head? = some (.ref p) ∧ Same S H ∧ PenAt p cs ns n S H ∧ n + c ≤ PB ∧ RP p S vs Post ∧
  ∀ v S' H', Gr [p] S H S' H' → PenAt p cs ns (n + c) S' H' → Post S' v → Q v H'
section
variable {p cs : Addr} {ns : List Int} {c c1 c2 c3 c4 c5 : Nat} {S S' H : Hp} {σ : L2.St} {ta tb tc te : TE} {R R1 R2' R3 R' : Hp → V → Prop} {K : PySem.W.Frag} {r : R2}
theorem Ge.mono (h : Ge p cs ns c te σ S R) (e : Same S S') : Ge p cs ns c te σ S' R := fun n S1 H a b pn hn Q q => h n S1 H (e.trans a) b pn hn Q q
theorem Ge.weak (h : Ge p cs ns c te σ S R) (w : ∀ S' v, Same S S' → R S' v → R' S' v) : Ge p cs ns c te σ S R' := fun n S1 H a b pn hn Q q => h n S1 H a b pn hn Q fun v S2 H2 g pn2 r => q v S2 H2 g pn2 (w _ _ (a.trans g.ss) r)
theorem Ge.le (h : Ge p cs ns c te σ S R) (e : c ≤ c1) : Ge p cs ns c1 te σ S R := fun n S1 H a b pn hn Q q => h n S1 H a b pn (by omega) Q fun v S2 H2 g pn2 r => q v S2 H2 g (pn2.le (by omega)) r
theorem Gv.e (h : Gv te σ S R) : Ge p cs ns 0 te σ S R := fun n S1 H a b pn hn Q q => h S1 H a b Q fun v S2 H2 g r => q v S2 H2 g.up0 ((pn.gr g).le (by omega)) r
theorem GA.e {t : TA} {RA : Hp → List V → Prop} (h : GA t σ S RA) : GeA p cs ns 0 t σ S RA := fun n S1 H a b pn hn Q q => h S1 H a b Q fun v S2 H2 g r => q v S2 H2 g.up0 ((pn.gr g).le (by omega)) r
theorem eOp (ha : Ge p cs ns c1 ta σ S R) (hb : ∀ S1 x, Same S S1 → R S1 x → Ge p cs ns c2 tb σ S1 fun S2 y => RV r S2 x y R2') : Ge p cs ns (c1 + c2) (tOp r ta tb) σ S R2' := fun n S1 H a b pn hn Q q =>
  ha n S1 H a b pn (by omega) _ fun x S2 H2 g2 pn2 hx => hb S2 x (a.trans g2.ss) hx (n + c1) S2 H2 (Same.refl _) g2.sh pn2 (by omega) _ fun y S3 H3 g3 pn3 hr => hr S3 H3 (Same.refl _) g3.sh Q fun v S4 H4 g4 hv => q v S4 H4 (g2.trans (g3.trans g4.up0)) ((pn3.gr g4).le (by omega)) hv
theorem Gr.drop {Sx S2 H2 : Hp} (g : Gr [] Sx H S2 H2) (s : Same S H) : Gr [] S H S H2 := Gr.of g.same (Same.refl _) (fun b o e => g.same _ _ (s b o e)) (fun b e _ => e) id
/-- o[j] = e at a list -/
theorem sSetL {D : Ends} {Sx : Hp} {i : Nat} {j : Int} {jn : Nat} {xs : List V} (h : Gv te σ Sx R) (sS : Same Sx H) (hi : σ[i]? = some (some (.ref p))) (e : H p = some (.lst xs)) (hj : ixN xs.length j = some jn)
    (q : ∀ v S' H', Gr [] Sx H S' H' → R S' v → D.nx σ (upd H' p (.lst (xs.set jn v)))) : tAsg te (gSub (tVar i) (tC (.int j)) rSetL) D σ H :=
  h.run sS fun v S' H' g hr => ⟨.ref p, hi, p, xs, j, jn, rfl, rfl, g.same _ _ e, hj, q v S' H' g hr⟩
section
variable {P : Program} {w : World} {mg : Str → Option Value} {base : Heap}
def RpDraw : Addr → Hp → List V → (Hp → V → Prop) → Prop := fun p S vs Post => ∃ many : Int, vs = [.ref p, .int many] ∧ 1 ≤ many ∧ many ≤ 1000000 ∧ Post = fun S' v => ∃ d, v = .int d ∧ 0 ≤ d ∧ d < many
def rAbs : List V → Hp → VK → Prop := fun xs H Q => ∃ i, xs = [.int i] ∧ Q (.int (if i < 0 then -i else i)) H
theorem call_abs' {X : Cx} : CallR X (.builtin "abs") rAbs := call_abs
theorem gAbs {i : Int} (h : GD ta σ S (.int i)) : GD (tCB rAbs (tCons ta tNil)) σ S (.int (if i < 0 then -i else i)) := gCB (ga1 h) fun S2 vs a hv S3 H a3 b3 Q k => by
  obtain ⟨v, rfl, hv⟩ := hv
  cases hv
  exact ⟨i, rfl, k _ S3 H (Gr.refl b3) (.int _)⟩
theorem gMod {i j : Int} (ha : GD ta σ S (.int i)) (hb : GD tb σ S (.int j)) (h : 0 < j) : GD (tOp (rI (fun _ j => 0 < j) fun i j => .int (i % j)) ta tb) σ S (.int (i % j)) := gIC ha hb h fun _ _ => .int _
theorem gDiv {i j : Int} (ha : GD ta σ S (.int i)) (hb : GD tb σ S (.int j)) (h : CDiv i j) : GD (tOp (rI CDiv fun i j => .int (i / j)) ta tb) σ S (.int (i / j)) := gIC ha hb h fun _ _ => .int _
theorem gPow {i j : Int} (ha : GD ta σ S (.int i)) (hb : GD tb σ S (.int j)) (h : CPow i j) : GD (tOp (rI CPow fun i j => .int (i ^ j.toNat)) ta tb) σ S (.int (i ^ j.toNat)) := gIC ha hb h fun _ _ => .int _
theorem ok_law_draw {f : Addr} {fd : FuncData} {k : Nat} (F : Fun K "_law_draw" "_law_draw" s_law_draw f fd) (B : BI mg) : FnOk P w K mg base CX0 (k + 1) f fd ["_law_pen_here", "_law_many"] (spE 1 RpDraw) := by
  refine F.ok sc_law_draw (fun vs H Q E h => by obtain ⟨p, cs, ns, n, S, Post, _, _, _, _, ⟨m, rfl, _⟩, _⟩ := h; rfl) fun cdv A outer s H vs Q E hr h => ?_
  obtain ⟨p, cs, ns, n, S, Post, _, sS, ⟨np, hcs, k, rest, e, k0, k1⟩, hB, ⟨m, rfl, hm1, hm2, rfl⟩, q⟩ := h
  refine ⟨_, (pss_cons (ps_if (pt_cmpR op_gt (pe_ix (ix_seq : IxR _ (rIx K)) (pv 0) pe_int (fun _ _ => rfl)) pe_int (nomark _)) (pss_cons (ps_set (i := 2) sc_law_draw.nd rfl (by first | exact .inl rfl | exact .inr rfl) (pe_op op_mod (pe_ix (ix_seq : IxR _ (rIx K)) (pv 0) pe_int (fun _ _ => rfl)) (pv 1)))
      (pss_cons (ps_asg (pe_op op_fdiv (pe_ix (ix_seq : IxR _ (rIx K)) (pv 0) pe_int (fun _ _ => rfl)) (pv 1)) (pg_sub (pv 0) pe_int set_list))
      (pss_one (ps_ret (pv 2))))) pss_nil)
      (pss_cons (ps_set (i := 3) sc_law_draw.nd rfl (by first | exact .inl rfl | exact .inr rfl) (pe_ix (ix_seq : IxR _ (rIx K)) (pv 0) pe_int (fun _ _ => rfl)))
      (pss_cons (ps_asg (pe_op (op_add4 : OpR _ _ (rAdd4 K)) (pv 3) pe_int) (pg_sub (pv 0) pe_int set_list))
      (pss_cons (ps_set (i := 4) sc_law_draw.nd rfl (by first | exact .inl rfl | exact .inr rfl) (pe_op (op_add4 : OpR _ _ (rAdd4 K)) (pe_op op_mul pe_int (pv 3)) pe_int))
      (Evl.pss_cut (ps_if (pt_cmpR op_gt (pe_callB (call_lenA : CallR _ _ (rLenA K)) (by rfl) B.len (by decide +kernel) (pa_cons (pe_ix (ix_seq : IxR _ (rIx K)) (pv 0) pe_int (fun _ _ => rfl)) pa_nil)) pe_int (nomark _)) (pss_one (ps_set (i := 4) sc_law_draw.nd rfl (by first | exact .inl rfl | exact .inr rfl) (pe_ix (ix_seq : IxR _ (rIx K)) (pe_ix (ix_seq : IxR _ (rIx K)) (pv 0) pe_int (fun _ _ => rfl)) (pe_op op_mod (pv 3) (pe_callB (call_lenA : CallR _ _ (rLenA K)) (by rfl) B.len (by decide +kernel) (pa_cons (pe_ix (ix_seq : IxR _ (rIx K)) (pv 0) pe_int (fun _ _ => rfl)) pa_nil))) (fun _ _ => rfl)))) pss_nil)
      (pss_cons (ps_if (PW.pt (pw_and (pt_cmpR op_lt (pv 3) (pe_callB (call_lenA : CallR _ _ (rLenA K)) (by rfl) B.len (by decide +kernel) (pa_cons (pe_ix (ix_seq : IxR _ (rIx K)) (pv 0) pe_int (fun _ _ => rfl)) pa_nil)) (nomark _)) (pw_and1 (pt_cmpR op_ge (pe_callB call_abs' (by rfl) B.abs (by decide +kernel) (pa_cons (pv 4) pa_nil)) (pe_op op_pow pe_int pe_int) (nomark _))))) (pss_cons (ps_asg (pe_op op_fdiv (pe_callB call_abs' (by rfl) B.abs (by decide +kernel) (pa_cons (pv 4) pa_nil)) (pv 1)) (pg_sub (pv 0) pe_int set_list))
      (pss_one (ps_ret (pe_op op_mod (pe_callB call_abs' (by rfl) B.abs (by decide +kernel) (pa_cons (pv 4) pa_nil)) (pv 1))))) pss_nil)
      (pss_cons (ps_set (i := 5) sc_law_draw.nd rfl (by first | exact .inl rfl | exact .inr rfl) (pe_op (op_add4 : OpR _ _ (rAdd4 K)) (pe_op (op_add4 : OpR _ _ (rAdd4 K)) (pe_op (op_add4 : OpR _ _ (rAdd4 K)) (pe_op op_mod (pv 4) pe_int) (pe_op op_mul (pe_op op_mul pe_int (pv 3)) (pv 3))) (pe_op op_mul pe_int (pv 3))) pe_int))
      (pss_cons (ps_set (i := 6) sc_law_draw.nd rfl (by first | exact .inl rfl | exact .inr rfl) (pe_op op_mod (pe_op op_pow (pv 5) pe_int) pe_int))
      (pss_cons (ps_set (i := 6) sc_law_draw.nd rfl (by first | exact .inl rfl | exact .inr rfl) (pe_op op_mod (pe_op op_mul (pe_op op_pow (pe_op (op_add4 : OpR _ _ (rAdd4 K)) (pe_op (op_add4 : OpR _ _ (rAdd4 K)) (pv 6) (pe_op op_mul pe_int (pv 3))) pe_int) pe_int) (pe_op (op_add4 : OpR _ _ (rAdd4 K)) (pe_op op_mod (pv 6) pe_int) pe_int)) pe_int))
      (pss_one (ps_ret (pe_op op_mod (pe_op op_fdiv (pv 6) pe_int) (pv 1))))))))))))), ?_⟩
  have hB : (n : Int) + 1 ≤ 1000000 := by unfold PB at hB; omega
  have dd : ∀ (k' r' : Int), DD (upd S p (.lst [.ref cs, .int k', .int r'])) (.ref p) (.list [.list (ns.map .int), .int k', .int r']) := fun k' r' =>
    .lst upd_same (.cons (.lst (same_upd' np _ _ hcs) (DDs.of_ints ns)) (.cons (.int _) (.cons (.int _) .nil)))
  have fin : ∀ (H' : Hp) (d k' r' : Int), Gr [p] S H S H' → H' p = some (.lst [.ref cs, .int k', .int r']) → 0 ≤ k' → k' ≤ (n : Int) + 1 → 0 ≤ d → d < m → Q (.int d) H' := fun H' d k' r' g e' h1 h2 h3 h4 =>
    q _ S H' g ⟨np, hcs, k', r', e', h1, by omega⟩ ⟨d, rfl, h3, h4⟩
  refine sIf (gTest (gCmpI (f := fun i j => decide (j < i)) (gIxL (gV (dd k rest)) gInt (atI_nat (j := 2) rfl)) gInt)) (tellS sS e) (fun hb S1 H1 g1 => ?_) fun hb S1 H1 g1 => ?_
  · have g1' := g1.drop sS
    have e1 := g1.same _ _ e
    refine sAsg (gMod (gIxL (gV (dd k rest)) gInt (atI_nat (j := 2) rfl)) (gV (.int m)) (by omega)) (tellS g1'.sh e1) fun v S2 H2 g2 hv => ?_
    cases hv
    have g2' := g1'.trans (g2.drop g1'.sh)
    have e2 := g2.same _ _ e1
    refine sSetL (p := p) (jn := 2) (gDiv (gIxL (gV (dd k rest)) gInt (atI_nat (j := 2) rfl)) (gV (.int m)) ⟨by omega, by omega⟩) (tellS g2'.sh e2) rfl e2 rfl fun v S3 H3 g3 hv => ?_
    cases hv
    have g3' := (g2'.trans (g3.drop g2'.sh)).up0 (ex := [p])
    have g4 := g3'.put (p := p) (o := .lst [.ref cs, .int k, .int (rest / m)]) (by simp) np
    refine sRet (S := S) (gV (.int (rest % m))) g4.sh fun v S5 H5 g5 h5 => ?_
    cases h5
    exact fin H5 _ k (rest / m) (g4.trans (g5.drop g4.sh).up0) (g5.same _ _ upd_same) k0 (by omega) (Int.emod_nonneg _ (by omega)) (Int.emod_lt_of_pos _ (by omega))
  have g1' := g1.drop sS
  have e1 := g1.same _ _ e
  refine sAsg (gIxL (gV (dd k rest)) gInt (atI_nat (j := 1) rfl)) (tellS g1'.sh e1) fun v S2 H2 g2 hv => ?_
  cases hv
  have g2' := g1'.trans (g2.drop g1'.sh)
  have e2 := g2.same _ _ e1
  refine sSetL (p := p) (jn := 1) (gAddI (gV (.int k)) gInt) g2'.sh rfl e2 rfl fun v S3 H3 g3 hv => ?_
  cases hv
  have g3' := (g2'.trans (g3.drop g2'.sh)).up0 (ex := [p])
  have g4 := g3'.put (p := p) (o := .lst [.ref cs, .int (k + 1), .int rest]) (by simp) np
  have e4 : (upd H3 p (.lst [.ref cs, .int (k + 1), .int rest])) p = some (.lst [.ref cs, .int (k + 1), .int rest]) := upd_same
  refine sAsg (S := S) (gAddI (gMul gInt (gV (.int k)) (.inl ⟨by decide, by decide⟩)) gInt) g4.sh fun v S5 H5 g5 hv => ?_
  cases hv
  have g5' := g4.trans (g5.drop g4.sh).up0
  have e5 := g5.same _ _ e4
  refine ⟨fun σ' H' => ∃ c : Int, σ' = [some (.ref p), some (.int m), none, some (.int k), some (.int c), none, none] ∧ Gr [p] S H S H' ∧ H' p = some (.lst [.ref cs, .int (k + 1), .int rest]), ?_, fun σ' H' hM => ?_⟩
  · refine sIf (gTest (gCmpI (f := fun i j => decide (j < i)) (gLenL (gIxL (gV (dd (k + 1) rest)) gInt (atI_nat (j := 0) rfl))) gInt)) (tellS g5'.sh e5) (fun hb S6 H6 g6 => ?_) fun hb S6 H6 g6 => ⟨_, rfl, g5'.trans (g6.drop g5'.sh).up0, g6.same _ _ e5⟩
    have hb := of_decide_eq_true hb
    rw [List.length_map] at hb
    have g6' := g5'.trans (g6.drop g5'.sh).up0
    have e6 := g6.same _ _ e5
    have hlt : (k % (ns.length : Int)).toNat < ns.length := by
      have h1 := Int.emod_nonneg k (show (ns.length : Int) ≠ 0 by omega)
      have h2 := Int.emod_lt_of_pos k (show (0 : Int) < ns.length by omega)
      omega
    have hat : atI (ns.map PyData.int) (k % (ns.length : Int)) = some (.int ns[(k % (ns.length : Int)).toNat]) := by
      have h1 := Int.emod_nonneg k (show (ns.length : Int) ≠ 0 by omega)
      have := atI_nat (xs := ns.map PyData.int) (j := (k % (ns.length : Int)).toNat) (v := .int ns[(k % (ns.length : Int)).toNat]) (by rw [List.getElem?_map, List.getElem?_eq_getElem hlt]; rfl)
      rw [Int.toNat_of_nonneg h1] at this
      exact this
    refine sAsg (gIxL (gIxL (gV (dd (k + 1) rest)) gInt (atI_nat (j := 0) rfl)) (gMod (gV (.int k)) (GD.is (e := .int (ns.length : Int)) (gLenL (gIxL (gV (dd (k + 1) rest)) gInt (atI_nat (j := 0) rfl))) (by rw [List.length_map])) (by omega)) hat) (tellS g6'.sh e6) fun v S7 H7 g7 hv => ?_
    cases hv
    exact ⟨_, rfl, g6'.trans (g7.drop g6'.sh).up0, g7.same _ _ e6⟩
  obtain ⟨c, rfl, gm, em⟩ := hM
  have habs : 0 ≤ (if c < 0 then -c else c) := by split <;> omega
  refine sIf (gAnd (gTest (gCmpI (f := fun i j => decide (i < j)) (gV (.int k)) (gLenL (gIxL (gV (dd (k + 1) rest)) gInt (atI_nat (j := 0) rfl))))) fun _ => gTest (gCmpI (f := fun i j => decide (j ≤ i)) (gAbs (gV (.int c))) (gPow gInt gInt ⟨by decide, by decide, by decide⟩))) (tellS gm.sh em) (fun hb S1 H1 g1 => ?_) fun hb S1 H1 g1 => ?_
  · have g1' := gm.trans (g1.drop gm.sh).up0
    have e1 := g1.same _ _ em
    refine sSetL (Sx := S) (p := p) (jn := 2) (gDiv (gAbs (gV (.int c))) (gV (.int m)) ⟨by omega, by omega⟩) g1'.sh rfl e1 rfl fun v S3 H3 g3 hv => ?_
    cases hv
    have g3' := g1'.trans (g3.drop g1'.sh).up0
    have g4 := g3'.put (p := p) (o := .lst [.ref cs, .int (k + 1), .int ((if c < 0 then -c else c) / m)]) (by simp) np
    refine sRet (S := S) (gMod (gAbs (gV (.int c))) (gV (.int m)) (by omega)) g4.sh fun v S5 H5 g5 h5 => ?_
    cases h5
    exact fin H5 _ (k + 1) _ (g4.trans (g5.drop g4.sh).up0) (g5.same _ _ upd_same) (by omega) (by omega) (Int.emod_nonneg _ (by omega)) (Int.emod_lt_of_pos _ (by omega))
  have g1' := gm.trans (g1.drop gm.sh).up0
  have e1 := g1.same _ _ em
  have hkk : 0 ≤ k * k ∧ k * k ≤ 1000000 * 1000000 := ⟨Int.mul_nonneg k0 k0, Int.mul_le_mul (by omega) (by omega) k0 (by decide)⟩
  have hk50 : 50021 * k * k = 50021 * (k * k) := Int.mul_assoc _ _ _
  have hc1 : 0 ≤ c % 2147483497 ∧ c % 2147483497 < 2147483497 := ⟨Int.emod_nonneg _ (by decide), Int.emod_lt_of_pos _ (by decide)⟩
  refine sAsg (S := S) (gAddI (gAddI (gAddI (gMod (gV (.int c)) gInt (by decide)) (gMul (gMul gInt (gV (.int k)) (.inl ⟨by decide, by decide⟩)) (gV (.int k)) (.inl ⟨by omega, by omega⟩))) (gMul gInt (gV (.int k)) (.inl ⟨by decide, by decide⟩))) gInt) g1'.sh fun v S2 H2 g2 hv => ?_
  cases hv
  have g2' := g1'.trans (g2.drop g1'.sh).up0
  have e2 := g2.same _ _ e1
  generalize hlow : c % 2147483497 + 50021 * k * k + 40009 * k + 67 = low
  have lowb : 0 ≤ low ∧ low < 2 ^ 63 := by omega
  refine sAsg (S := S) (gMod (gPow (gV (.int low)) gInt ⟨by decide, by decide, by omega⟩) gInt (by decide)) g2'.sh fun v S3 H3 g3 hv => ?_
  cases hv
  have g3' := g2'.trans (g3.drop g2'.sh).up0
  have e3 := g3.same _ _ e2
  generalize hst : low ^ (Int.toNat 3) % 2147483629 = st
  have hsb : 0 ≤ st ∧ st < 2147483629 := by rw [← hst]; exact ⟨Int.emod_nonneg _ (by decide), Int.emod_lt_of_pos _ (by decide)⟩
  have hs9 : 0 ≤ st % 90001 ∧ st % 90001 < 90001 := ⟨Int.emod_nonneg _ (by decide), Int.emod_lt_of_pos _ (by decide)⟩
  refine sAsg (S := S) (gMod (gMul (gPow (gAddI (gAddI (gV (.int st)) (gMul gInt (gV (.int k)) (.inl ⟨by decide, by decide⟩))) gInt) gInt ⟨by decide, by decide, by omega⟩) (gAddI (gMod (gV (.int st)) gInt (by decide)) gInt) (.inr ⟨by omega, by omega⟩)) gInt (by decide)) g3'.sh fun v S4 H4 g4 hv => ?_
  cases hv
  have g4' := g3'.trans (g4.drop g3'.sh).up0
  have e4 := g4.same _ _ e3
  refine sRet (S := S) (gMod (gDiv (gV (.int _)) gInt ⟨by decide, by decide⟩) (gV (.int m)) (by omega)) g4'.sh fun v S5 H5 g5 h5 => ?_
  cases h5
  exact fin H5 _ (k + 1) _ (g4'.trans (g5.drop g4'.sh).up0) (g5.same _ _ e4) (by omega) (by omega) (Int.emod_nonneg _ (by omega)) (Int.emod_lt_of_pos _ (by omega))
end
end
end PF
-- part PfN2
set_option Elab.async false
set_option linter.all false
set_option maxRecDepth 100000
set_option maxHeartbeats 4000000
namespace PF
open PySem PySem.Spec PyProof.Rows L2
theorem sc_law_pen : FnScope ["_law_script"] ["_law_script"] (defScope s_law_pen) := ⟨rfl, rfl, rfl, by decide +kernel, rfl, by decide +kernel, by decide +kernel⟩
theorem sc_law_pick : FnScope ["_law_pen_here", "_law_some"] ["_law_pen_here", "_law_some"] (defScope s_law_pick) := ⟨rfl, rfl, rfl, by decide +kernel, rfl, by decide +kernel, by decide +kernel⟩
theorem sc_law_worth : FnScope ["_law_pen_here", "_law_some"] ["_law_pen_here"] (defScope s_law_worth) := ⟨rfl, rfl, rfl, by decide +kernel, rfl, by decide +kernel, by decide +kernel⟩
section
variable {p cs : Addr} {ns : List Int} {c c1 c2 c3 c4 c5 : Nat} {S S' H : Hp} {σ : L2.St} {ta tb tc te : TE} {R R1 R2' R3 R' : Hp → V → Prop} {K : PySem.W.Frag} {r : R2} {D : Ends}
theorem eCall {RP : Addr → Hp → List V → (Hp → V → Prop) → Prop} {t : TA} (h : GA t σ S fun S' vs => vs.head? = some (.ref p) ∧ RP p S' vs R) : Ge p cs ns c (tCall (spE c RP) [] E0 t) σ S R := fun n S1 H a b pn hn Q q => h S1 H a b _ fun vs S2 H2 g hv => by
  show spE c RP (vs ++ []) H2 Q E0
  rw [List.append_nil]
  exact ⟨p, cs, ns, n, S2, R, hv.1, g.sh, pn.gr g, hn, hv.2, fun v S' H' g' pn' hv' => q v S' H' (g.up0.trans g') pn' hv'⟩
theorem eCallE {RP : Addr → Hp → List V → (Hp → V → Prop) → Prop} {t : TA} (h : GeA p cs ns c1 t σ S fun S' vs => vs.head? = some (.ref p) ∧ RP p S' vs R) : Ge p cs ns (c1 + c) (tCall (spE c RP) [] E0 t) σ S R := fun n S1 H a b pn hn Q q => h n S1 H a b pn (by omega) _ fun vs S2 H2 g pn2 hv => by
  show spE c RP (vs ++ []) H2 Q E0
  rw [List.append_nil]
  exact ⟨p, cs, ns, n + c1, S2, R, hv.1, g.sh, pn2, by omega, hv.2, fun v S' H' g' pn' hv' => q v S' H' (g.trans g') (pn'.le (by omega)) hv'⟩
theorem eaNil : GeA p cs ns 0 tNil σ S fun S' vs => vs = [] := fun n S1 H a b pn hn Q q => q [] S1 H (Gr.refl b) (pn.le (by omega)) rfl
theorem eaCons' {tr : TA} {RA : Hp → List V → Prop} (h : Ge p cs ns c1 ta σ S R) (hr : ∀ S1 x, Same S S1 → R S1 x → GeA p cs ns c2 tr σ S1 fun S2 vs => RA S2 (x :: vs)) : GeA p cs ns (c1 + c2) (tCons ta tr) σ S RA := fun n S1 H a b pn hn Q q =>
  h n S1 H a b pn (by omega) _ fun x S2 H2 g pn2 hx => hr S2 x (a.trans g.ss) hx (n + c1) S2 H2 (Same.refl _) g.sh pn2 (by omega) _ fun vs S3 H3 g3 pn3 hv => q _ S3 H3 (g.trans g3) (pn3.le (by omega)) hv
theorem GeA.weak {t : TA} {RA RB : Hp → List V → Prop} (h : GeA p cs ns c t σ S RA) (w : ∀ S' v, Same S S' → RA S' v → RB S' v) : GeA p cs ns c t σ S RB := fun n S1 H a b pn hn Q q => h n S1 H a b pn hn Q fun v S2 H2 g pn2 r => q v S2 H2 g pn2 (w _ _ (a.trans g.ss) r)
theorem GeA.mono {t : TA} {RA : Hp → List V → Prop} (h : GeA p cs ns c t σ S RA) (e : Same S S') : GeA p cs ns c t σ S' RA := fun n S1 H a b pn hn Q q => h n S1 H (e.trans a) b pn hn Q q
/-- some data of a kind -/
def Sm' (P : PyData → Prop) : Hp → V → Prop := fun S v => ∃ d, P d ∧ DD S v d
def SmA (m : Nat) (P : PyData → Prop) : Hp → List V → Prop := fun S vs => ∃ ds, ds.length = m ∧ (∀ d ∈ ds, P d) ∧ DDs S vs ds
theorem eaN {P : PyData → Prop} : GeA p cs ns 0 tNil σ S (SmA 0 P) := fun n S1 H a b pn hn Q q => q [] S1 H (Gr.refl b) (pn.le (by omega)) ⟨[], rfl, by simp, .nil⟩
theorem eaC {tr : TA} {m : Nat} {P : PyData → Prop} (h : Ge p cs ns c1 ta σ S (Sm' P)) (hr : GeA p cs ns c2 tr σ S (SmA m P)) : GeA p cs ns (c1 + c2) (tCons ta tr) σ S (SmA (m + 1) P) :=
  eaCons' h fun S1 x a hx => (hr.mono a).weak fun S2 vs a2 hv => by
    obtain ⟨d, hd, hx⟩ := hx
    obtain ⟨ds, h1, h2, h3⟩ := hv
    refine ⟨d :: ds, by rw [List.length_cons, h1], fun e he => ?_, .cons (hx.mono a2) h3⟩
    rcases List.mem_cons.mp he with rfl | he
    · exact hd
    · exact h2 e he
theorem eD {P : PyData → Prop} {d : PyData} (h : GD te σ S d) (hd : P d) : Ge p cs ns 0 te σ S (Sm' P) := (Gv.weak h fun _ _ _ h => ⟨d, hd, h⟩).e
theorem eLstE {t : TA} {m : Nat} {P : PyData → Prop} (h : GeA p cs ns c t σ S (SmA m P)) (hz : m ≤ sizeLine) : Ge p cs ns c (tLst t) σ S fun S' v => ∃ ds, ds.length = m ∧ (∀ d ∈ ds, P d) ∧ DD S' v (.list ds) := fun n S1 H a b pn hn Q q =>
  h n S1 H a b pn hn _ fun xs S2 H2 g pn2 hx => by
    obtain ⟨ds, h1, h2, h3⟩ := hx
    exact ⟨by rw [h3.len, h1]; exact hz, fun o ho => q _ _ _ (g.trans (Gr.new g.sh ho).up0) (pn2.gr (Gr.new g.sh ho)) ⟨ds, h1, h2, .lst upd_same (h3.mono (same_upd' (g.sh.free ho)))⟩⟩
theorem eAsg {i n : Nat} (h : Ge p cs ns c te σ S R) (sS : Same S H) (pn : PenAt p cs ns n S H) (hn : n + c ≤ PB) (q : ∀ v S' H', Gr [p] S H S' H' → PenAt p cs ns (n + c) S' H' → R S' v → D.nx (σ.set i (some v)) H') : tAsg te (gName i) D σ H := h n S H (Same.refl _) sS pn hn _ q
theorem eRet {n : Nat} (h : Ge p cs ns c te σ S R) (sS : Same S H) (pn : PenAt p cs ns n S H) (hn : n + c ≤ PB) (q : ∀ v S' H', Gr [p] S H S' H' → PenAt p cs ns (n + c) S' H' → R S' v → D.rt v H') : tRet te D σ H := h n S H (Same.refl _) sS pn hn _ q
/-- draw(pen, m) -/
theorem eDraw {i : Nat} {m : Int} (hm : GD te σ S (.int m)) (h1 : 1 ≤ m) (h2 : m ≤ 1000000) (hi : σ[i]? = some (some (.ref p)) := by rfl) : Ge p cs ns 1 (tCall (spE 1 RpDraw) [] E0 (tCons (tVar i) (tCons te tNil))) σ S fun S' v => ∃ d, v = .int d ∧ 0 ≤ d ∧ d < m :=
  eCall ((gA2 (mV (.ref p)) (gvI (mV (.ref p)) rfl hi) hm).weak fun S2 vs a hv => by
    obtain ⟨x, y, rfl, rfl, hy⟩ := hv
    cases hy
    exact ⟨rfl, m, rfl, h1, h2, rfl⟩)
theorem eSubI {i : Int} {P : Int → Prop} (ha : Ge p cs ns c ta σ S fun S' v => ∃ d, v = .int d ∧ P d) (hb : GD tb σ S (.int i)) : Ge p cs ns c (tOp (rI0 fun i j => .int (i - j)) ta tb) σ S fun S' v => ∃ d, v = .int (d - i) ∧ P d :=
  (eOp (c2 := 0) ha fun S1 x a hx => (Gv.weak (hb.mono a) fun S2 y a2 hy => by
    cases hy
    obtain ⟨d, rfl, hd⟩ := hx
    exact rvI fun S' e => ⟨d, rfl, hd⟩).e).le (by omega)
def RpPick : Addr → Hp → List V → (Hp → V → Prop) → Prop := fun p S vs Post => ∃ x, vs = [.ref p, x] ∧ ((∃ ds, DD S x (.list ds) ∧ 1 ≤ ds.length ∧ ds.length ≤ 1000000 ∧ ∀ S' v, (∃ d ∈ ds, DD S' v d) → Post S' v) ∨
  ∃ z : Str, x = .str z ∧ 1 ≤ z.length ∧ z.length ≤ 1000000 ∧ ∀ S' v, (∃ c ∈ z.cps.toList, v = .str ⟨#[c]⟩) → Post S' v)
section
variable {P : Program} {w : World} {mg : Str → Option Value} {base : Heap}
theorem ok_law_pick {f : Addr} {fd : FuncData} {k : Nat} (F : Fun K "_law_pick" "_law_pick" s_law_pick f fd) (B : BI mg) (c_law_draw : Ok P w K mg base "_law_draw" ["_law_pen_here", "_law_many"] 1 (spE 1 RpDraw)) (hk : 1 ≤ k) : FnOk P w K mg base CX0 (k + 1) f fd ["_law_pen_here", "_law_some"] (spE 1 RpPick) := by
  refine F.ok sc_law_pick (fun vs H Q E h => by obtain ⟨p, cs, ns, n, S, Post, _, _, _, _, ⟨x, rfl, _⟩, _⟩ := h; rfl) fun cdv A outer s H vs Q E hr h => ?_
  obtain ⟨p, cs, ns, n, S, Post, _, sS, pn, hB, ⟨x, rfl, hx⟩, q⟩ := h
  refine ⟨_, (pss_one (ps_ret (pe_ix (ix_seq : IxR _ (rIx K)) (pv 1) (pe_ok c_law_draw (hr.mono (by omega)) (by rfl) (pa_cons (pv 0) (pa_cons (pe_callB (call_lenA : CallR _ _ (rLenA K)) (by rfl) B.len (by decide +kernel) (pa_cons (pv 1) pa_nil)) pa_nil))) (fun _ _ => rfl)))), ?_⟩
  refine ⟨x, rfl, ?_⟩
  rcases hx with ⟨ds, hd, l1, l2, hP⟩ | ⟨z, rfl, l1, l2, hP⟩
  · refine eDraw (cs := cs) (ns := ns) (p := p) (gLenL (gV hd)) (by omega) (by omega) rfl n S H (Same.refl _) sS pn hB _ fun v S' H' g pn' hv => ?_
    obtain ⟨d, rfl, d0, d1⟩ := hv
    obtain ⟨a, xs, rfl, h1, h2⟩ := (hd.mono g.ss).lstE
    have hlt : d.toNat < ds.length := by omega
    obtain ⟨y, hy1, hy2⟩ := h2.atI (i := d) (d := ds[d.toNat]) (by
      have := atI_nat (xs := ds) (j := d.toNat) (List.getElem?_eq_getElem hlt)
      rw [Int.toNat_of_nonneg d0] at this
      exact this)
    exact .inl ⟨a, xs, d, y, rfl, rfl, SqL.of (g.sh _ _ h1), hy1, q y S' H' g pn' (hP _ _ ⟨_, List.getElem_mem hlt, hy2⟩)⟩
  · have hzl : z.cps.toList.length = z.length := Array.length_toList
    refine eDraw (cs := cs) (ns := ns) (p := p) (gLenS (gV (.str z)) (Nat.le_trans l2 (by decide))) (by omega) (by omega) rfl n S H (Same.refl _) sS pn hB _ fun v S' H' g pn' hv => ?_
    obtain ⟨d, rfl, d0, d1⟩ := hv
    have hlt : d.toNat < z.cps.toList.length := by omega
    exact .inr (.inr ⟨z, d, z.cps.toList[d.toNat], rfl, rfl, Nat.le_trans l2 (by decide), by
      have := atI_nat (xs := z.cps.toList) (j := d.toNat) (List.getElem?_eq_getElem hlt)
      rw [Int.toNat_of_nonneg d0] at this
      exact this, q _ S' H' g pn' (hP _ _ ⟨_, List.getElem_mem hlt, rfl⟩)⟩)
theorem ePickL {i : Nat} {ds : List PyData} (hx : GD te σ S (.list ds)) (h1 : 1 ≤ ds.length) (h2 : ds.length ≤ 1000000) (hi : σ[i]? = some (some (.ref p)) := by rfl) : Ge p cs ns 1 (tCall (spE 1 RpPick) [] E0 (tCons (tVar i) (tCons te tNil))) σ S fun S' v => ∃ d ∈ ds, DD S' v d :=
  eCall ((gA2 (mV (.ref p)) (gvI (mV (.ref p)) rfl hi) hx).weak fun S2 vs a hv => by
    obtain ⟨x, y, rfl, rfl, hy⟩ := hv
    exact ⟨rfl, y, rfl, .inl ⟨ds, hy, h1, h2, fun _ _ h => h⟩⟩)
theorem ePickS {i : Nat} {z : Str} (hx : GD te σ S (.str z)) (h1 : 1 ≤ z.length) (h2 : z.length ≤ 1000000) (hi : σ[i]? = some (some (.ref p)) := by rfl) : Ge p cs ns 1 (tCall (spE 1 RpPick) [] E0 (tCons (tVar i) (tCons te tNil))) σ S fun S' v => ∃ c ∈ z.cps.toList, v = .str ⟨#[c]⟩ :=
  eCall ((gA2 (mV (.ref p)) (gvI (mV (.ref p)) rfl hi) hx).weak fun S2 vs a hv => by
    obtain ⟨x, y, rfl, rfl, hy⟩ := hv
    cases hy
    exact ⟨rfl, _, rfl, .inr ⟨z, rfl, h1, h2, fun _ _ h => h⟩⟩)
def IsW (d : PyData) : Prop := ∃ i, d = .int i ∧ -99 ≤ i ∧ i ≤ 99
def RpWorth : Addr → Hp → List V → (Hp → V → Prop) → Prop := fun p S vs Post => vs = [.ref p] ∧ Post = fun S' v => ∃ i, v = .int i ∧ -99 ≤ i ∧ i ≤ 99
theorem ok_law_worth {f : Addr} {fd : FuncData} {k : Nat} (F : Fun K "_law_worth" "_law_worth" s_law_worth f fd) (B : BI mg) (c_law_draw : Ok P w K mg base "_law_draw" ["_law_pen_here", "_law_many"] 1 (spE 1 RpDraw)) (c_law_pick : Ok P w K mg base "_law_pick" ["_law_pen_here", "_law_some"] 2 (spE 1 RpPick)) (hk : 2 ≤ k) :
    FnOk P w K mg base CX0 (k + 1) f fd ["_law_pen_here"] (spE 4 RpWorth) := by
  refine F.ok sc_law_worth (fun vs H Q E h => by obtain ⟨p, cs, ns, n, S, Post, _, _, _, _, ⟨rfl, _⟩, _⟩ := h; rfl) fun cdv A outer s H vs Q E hr h => ?_
  obtain ⟨p, cs, ns, n, S, Post, _, sS, pn, hB, ⟨rfl, rfl⟩, q⟩ := h
  refine ⟨_, (pss_cons (ps_set (i := 1) sc_law_worth.nd rfl (by first | exact .inl rfl | exact .inr rfl) (pe_lst (pa_cons pe_int (pa_cons (pe_op op_sub (pe_ok c_law_draw (hr.mono (by omega)) (by rfl) (pa_cons (pv 0) (pa_cons pe_int pa_nil))) pe_int) (pa_cons (pe_op op_sub (pe_ok c_law_draw (hr.mono (by omega)) (by rfl) (pa_cons (pv 0) (pa_cons pe_int pa_nil))) pe_int) (pa_cons (pe_op op_sub (pe_ok c_law_draw (hr.mono (by omega)) (by rfl) (pa_cons (pv 0) (pa_cons pe_int pa_nil))) pe_int) (pa_cons pe_int (pa_cons (pe_un un_neg pe_int) pa_nil))))))))
      (pss_one (ps_ret (pe_ix (ix_seq : IxR _ (rIx K)) (pv 1) (pe_ok c_law_pick (hr.mono (by omega)) (by rfl) (pa_cons (pv 0) (pa_cons (pe_lst (pa_cons pe_int (pa_cons pe_int (pa_cons pe_int (pa_cons pe_int (pa_cons pe_int (pa_cons pe_int (pa_cons pe_int (pa_cons pe_int pa_nil))))))))) pa_nil))) (fun _ _ => rfl))))), ?_⟩
  have dr : ∀ {m i : Int} {σ : L2.St} {S : Hp}, (1 ≤ m ∧ m ≤ 90 ∧ 0 ≤ i ∧ i ≤ 9) → σ[0]? = some (some (.ref p)) → Ge p cs ns 1 (tOp (rI0 fun i j => .int (i - j)) (tCall (spE 1 RpDraw) [] E0 (tCons (tVar 0) (tCons (tC (.int m)) tNil))) (tC (.int i))) σ S (Sm' IsW) := fun hm h0 =>
    (eSubI (eDraw gInt (by omega) (by omega) h0) gInt).weak fun S' v _ h => by
      obtain ⟨d, rfl, h1, h2⟩ := h
      exact ⟨_, ⟨_, rfl, by omega, by omega⟩, .int _⟩
  refine eAsg (n := n) (eLstE (m := 6) (P := IsW) (eaC (eD gInt ⟨0, rfl, by decide, by decide⟩) (eaC (dr (m := 19) (i := 9) (by decide) rfl) (eaC (dr (m := 19) (i := 9) (by decide) rfl) (eaC (dr (m := 7) (i := 3) (by decide) rfl) (eaC (eD gInt ⟨99, rfl, by decide, by decide⟩) (eaC (eD (gNeg gInt) ⟨-99, rfl, by decide, by decide⟩) eaN)))))) (by decide)) sS pn (by omega) fun x S1 H1 g1 pn1 hx => ?_
  obtain ⟨ds, hl, hw, hd⟩ := hx
  refine eRet (n := n + 3) (R := fun S' v => ∃ i, v = .int i ∧ -99 ≤ i ∧ i ≤ 99) (c := 0 + 1) (eOp (gV hd).e fun S2 y a hy => (ePickL (ds := ([0, 1, 1, 2, 3, 3, 4, 5] : List Int).map .int) (eLst (gaCons gInt (gaCons gInt (gaCons gInt (gaCons gInt (gaCons gInt (gaCons gInt (gaCons gInt (gaCons gInt gaNil)))))))) ) (by decide) (by decide)).weak fun S3 u a2 hu => ?_) g1.sh (pn1.le (by omega)) (by omega) fun v S4 H4 g4 pn4 hv => q v S4 H4 (g1.trans g4) (pn4.le (by omega)) hv
  obtain ⟨d, hd2, hu⟩ := hu
  obtain ⟨i, hi, rfl⟩ := List.mem_map.mp hd2
  cases hu
  have hib : 0 ≤ i ∧ i < 6 := by
    simp at hi
    omega
  have hlt : i.toNat < ds.length := by omega
  obtain ⟨a', xs, rfl, h1, h2⟩ := (hy.mono a2).lstE
  obtain ⟨y2, hy1, hy2⟩ := h2.atI (i := i) (d := ds[i.toNat]) (by
    have := atI_nat (xs := ds) (j := i.toNat) (List.getElem?_eq_getElem hlt)
    rw [Int.toNat_of_nonneg hib.1] at this
    exact this)
  obtain ⟨wv, hw1, hw2⟩ := hw _ (List.getElem_mem hlt)
  rw [hw1] at hy2
  cases hy2
  exact fun S7 H7 a7 b7 Q k => .inl ⟨a', xs, i, _, rfl, rfl, SqL.of (b7 _ _ (a7 _ _ h1)), hy1, k _ S7 H7 (Gr.refl b7) ⟨wv, rfl, hw2⟩⟩
end
end
end PF
-- part PfN3
set_option Elab.async false
set_option linter.all false
set_option maxRecDepth 100000
set_option maxHeartbeats 4000000
namespace PF
open PySem PySem.Spec PyProof.Rows L2
section
variable {p cs : Addr} {ns : List Int} {c c1 c2 c3 c4 c5 : Nat} {S S' H : Hp} {σ : L2.St} {ta tb tc te tl : TE} {tt : TT} {R R1 R2' R3 R' : Hp → V → Prop} {K : PySem.W.Frag} {r : R2} {D : Ends} {g : TG} {vs : List Nat}
/-- one turn of a comprehension that draws -/
def TurnE (p cs : Addr) (ns : List Int) (c : Nat) (σ : L2.St) (vs : List Nat) (g : TG) (tt : TT) (te : TE) (S1 : Hp) (v : V) (Py : PyData → Prop) : Prop :=
  ∃ σ2, (∀ (H : Hp) (Q : L2.St → Hp → Prop), Same S1 H → Q σ2 H → g v (wipe σ vs) H Q) ∧ wipe σ2 vs = wipe σ vs ∧ GT tt σ2 S1 true ∧ Ge p cs ns c te σ2 S1 (Sm' Py)
theorem turnEN {j : Nat} {S1 : Hp} {v : V} {Py : PyData → Prop} (hw : wipe ((wipe σ vs).set j (some v)) vs = wipe σ vs) (ht : GT tt ((wipe σ vs).set j (some v)) S1 true) (he : Ge p cs ns c te ((wipe σ vs).set j (some v)) S1 (Sm' Py)) : TurnE p cs ns c σ vs (gName j) tt te S1 v Py := ⟨_, fun H Q _ q => q, hw, ht, he⟩
def LeI {α : Type} (p cs : Addr) (ns : List Int) (n c : Nat) (l : List α) (Pxy : α → PyData → Prop) (Dl : Addr) (S2 H2 : Hp) (i : Nat) (H' : Hp) : Prop :=
  ∃ S' acc ds, Gr [Dl, p] S2 (upd H2 Dl (.lst [])) S' H' ∧ S' Dl = none ∧ H' Dl = some (.lst acc) ∧ PenAt p cs ns (n + c * i) S' H' ∧ Paired Pxy (l.take i) ds ∧ DDs S' acc ds
theorem paired_snoc {α β : Type} {q : α → β → Prop} : ∀ {l : List α} {m : List β} {a : α} {b : β}, Paired q l m → q a b → Paired q (l ++ [a]) (m ++ [b])
  | _, _, a, b, .nil, h => .cons h .nil
  | _, _, a, b, .cons h1 t, h => .cons h1 (paired_snoc t h)
theorem PenAt.put {n : Nat} {Dl : Addr} {o : HO} (h : PenAt p cs ns n S H) (hd : Dl ≠ p) : PenAt p cs ns n S (upd H Dl o) := by
  obtain ⟨h1, h2, k, rest, h3, h4⟩ := h
  exact ⟨h1, h2, k, rest, by rw [upd_ne hd.symm]; exact h3, h4⟩
theorem LeI.start {α : Type} {l : List α} {Pxy : α → PyData → Prop} {Dl : Addr} {S2 H2 : Hp} {n : Nat} (h : Same S2 H2) (hn : H2 Dl = none) (pn : PenAt p cs ns n S2 H2) : LeI p cs ns n c l Pxy Dl S2 H2 0 (upd H2 Dl (.lst [])) :=
  ⟨S2, [], [], Gr.refl (Gr.priv h hn).sh, h.free hn, upd_same, pn.put (fun e => by obtain ⟨_, _, k, rest, h3, _⟩ := pn; rw [← e, hn] at h3; cases h3), .nil, .nil⟩
theorem LeI.turn {α : Type} {l : List α} {Pxy : α → PyData → Prop} {Dl : Addr} {S2 H2 H' : Hp} {i n : Nat} {x : α} {v : V} (hd : Dl ≠ p) (hp : LeI p cs ns n c l Pxy Dl S2 H2 i H') (hx : l[i]? = some x) (hz : l.length ≤ sizeLine) (hB : n + c * l.length ≤ PB)
    (hs : ∀ S1, Same S2 S1 → TurnE p cs ns c σ vs g tt te S1 v (Pxy x)) :
    g v (wipe σ vs) H' fun σ2 H2' => wipe σ2 vs = wipe σ vs ∧ tt σ2 H2' fun b H3 => if b = true then te σ2 H3 fun y H4 => ∃ acc, H4 Dl = some (.lst acc) ∧ acc.length < sizeLine ∧ LeI p cs ns n c l Pxy Dl S2 H2 (i + 1) (upd H4 Dl (.lst (acc ++ [y]))) else LeI p cs ns n c l Pxy Dl S2 H2 (i + 1) H3 := by
  obtain ⟨S', acc, ds, gr, hn, e, pn, hPd, hacc⟩ := hp
  obtain ⟨σ2, hg, hw, ht, he⟩ := hs S' gr.ss
  have hi := (List.getElem?_eq_some_iff.mp hx).1
  have hci : c * i + c ≤ c * l.length := by
    rw [← Nat.mul_succ]
    exact Nat.mul_le_mul_left c hi
  refine hg H' _ gr.sh ⟨hw, ht.run gr.sh fun S3 H3 g3 => ?_⟩
  have n3 := g3.hide hn e
  have e3 := g3.same _ _ e
  have pn3 := pn.gr g3
  refine iteT (he (n + c * i) S3 H3 g3.ss g3.sh pn3 (by omega) _ fun y S4 H4 g4 pn4 hy => ?_)
  obtain ⟨d, hd1, hd2⟩ := hy
  have e4 : H4 Dl = some (.lst acc) := g4.hh _ _ (by simpa using hd) e3
  have n4 : S4 Dl = none := g4.hide n3 e3
  refine ⟨acc, e4, ?_, S4, acc ++ [y], ds ++ [d], ((gr.trans g3.up0).trans (g4.up (by simp))).put (by simp) n4, n4, upd_same, ?_, ?_, ((hacc.mono g3.ss).mono g4.ss).snoc hd2⟩
  · rw [hacc.len, ← hPd.length, List.length_take]
    omega
  · have := (pn4.put (o := .lst (acc ++ [y])) hd)
    exact this.le (by rw [Nat.mul_succ]; omega)
  · rw [List.take_add_one, hx]
    exact paired_snoc hPd hd1
theorem LeI.done {α : Type} {l : List α} {Pxy : α → PyData → Prop} {Dl : Addr} {S1 H S2 H2 H' : Hp} {Q : VK} {n m : Nat} (hp : LeI p cs ns n c l Pxy Dl S2 H2 m H') (hm : m = l.length) (g2 : Gr [] S1 H S2 H2) (hD : H2 Dl = none) (hd : Dl ≠ p)
    (q : ∀ v S' H', Gr [p] S1 H S' H' → PenAt p cs ns (n + c * l.length) S' H' → (∃ ds, Paired Pxy l ds ∧ DD S' v (.list ds)) → Q v H') : Q (.ref Dl) H' := by
  obtain ⟨S', acc, ds, gr, hn, e, pn, hPd, hacc⟩ := hp
  subst hm
  rw [List.take_length] at hPd
  have g0 : Gr [p] S2 H2 S2 (upd H2 Dl (.lst [])) := (Gr.priv g2.sh hD).up0
  have g3 : Gr [p] S2 H2 S' H' := Gr.over (fr := [Dl]) (ex := [p]) g0 gr (by simpa using hD)
  have g4 := (g2.up0 (ex := [p])).trans g3
  refine q _ _ _ (g4.tell (g2.same.free hD) hn e) ?_ ⟨ds, hPd, .lst upd_same (hacc.mono (same_upd' hn))⟩
  obtain ⟨h1, h2, k, rest, h3, h5⟩ := pn
  exact ⟨by rw [upd_ne hd.symm]; exact h1, same_upd' hn _ _ h2, k, rest, h3, h5⟩
theorem pen_ne {n : Nat} {Dl : Addr} (pn : PenAt p cs ns n S H) (hD : H Dl = none) : Dl ≠ p := fun e => by
  obtain ⟨_, _, k, rest, h3, _⟩ := pn
  rw [← e, hD] at h3
  cases h3
theorem eLc {α : Type} (l : List α) (enc : α → PyData) (Pxy : α → PyData → Prop) (hl : GD tl σ S (.list (l.map enc))) (hz : l.length ≤ sizeLine)
    (hs : ∀ x ∈ l, ∀ v S1, Same S S1 → DD S1 v (enc x) → TurnE p cs ns c σ vs g tt te S1 v (Pxy x)) : Ge p cs ns (c * l.length) (tLc (iList K tl) g tt te vs) σ S fun S' v => ∃ ds, Paired Pxy l ds ∧ DD S' v (.list ds) := fun n S1 H a b pn hn Q q =>
  hl S1 H a b _ fun x S2 H2 g2 hx => by
    obtain ⟨A, xs, rfl, h1, h2⟩ := hx.lstE
    refine ⟨A, rfl, ⟨xs, SqL.of (g2.sh _ _ h1)⟩, fun Dl hD => ?_⟩
    have hd := pen_ne (pn.gr g2) hD
    refine lc_list (xs := xs) (LeI p cs ns n c l Pxy Dl S2 H2) (LeI.start g2.sh hD (pn.gr g2)) (fun i H' _ hp => ?_) (fun i x H' hx hp => ?_) fun H' hp => hp.done (by rw [h2.len, List.length_map]) g2 hD hd q
    · obtain ⟨S', acc, ds, gr, _⟩ := hp
      exact SqL.of (gr.sh _ _ (gr.ss _ _ h1))
    · obtain ⟨d, hd', hv⟩ := h2.get hx
      obtain ⟨z, hz', rfl⟩ := map_get hd'
      exact hp.turn hd hz' hz hn fun S4 s4 => hs z (List.mem_of_getElem? hz') x S4 ((a.trans g2.ss).trans s4) (hv.mono s4)
theorem eLcT {α : Type} (l : List α) (enc : α → PyData) (Pxy : α → PyData → Prop) (hl : Gv tl σ S fun S' v => ∃ a xs, v = .ref a ∧ (∀ H, Same S' H → SqT K H a xs) ∧ DDs S' xs (l.map enc)) (hz : l.length ≤ sizeLine)
    (hs : ∀ x ∈ l, ∀ v S1, Same S S1 → DD S1 v (enc x) → TurnE p cs ns c σ vs g tt te S1 v (Pxy x)) : Ge p cs ns (c * l.length) (tLc (iTup K tl) g tt te vs) σ S fun S' v => ∃ ds, Paired Pxy l ds ∧ DD S' v (.list ds) := fun n S1 H a b pn hn Q q =>
  hl S1 H a b _ fun x S2 H2 g2 hx => by
    obtain ⟨A, xs, rfl, h1, h2⟩ := hx
    refine ⟨A, rfl, ⟨xs, h1 _ g2.sh⟩, fun Dl hD => ?_⟩
    have hd := pen_ne (pn.gr g2) hD
    refine lc_tup (xs := xs) (LeI p cs ns n c l Pxy Dl S2 H2) (LeI.start g2.sh hD (pn.gr g2)) (fun i H' _ hp => ?_) (fun i x H' hx hp => ?_) fun H' hp => hp.done (by rw [h2.len, List.length_map]) g2 hD hd q
    · obtain ⟨S', acc, ds, gr, _⟩ := hp
      exact h1 _ (gr.ss.trans gr.sh)
    · obtain ⟨d, hd', hv⟩ := h2.get hx
      obtain ⟨z, hz', rfl⟩ := map_get hd'
      exact hp.turn hd hz' hz hn fun S4 s4 => hs z (List.mem_of_getElem? hz') x S4 ((a.trans g2.ss).trans s4) (hv.mono s4)
theorem eLcR {t : TA} {hi : Int} (Pxy : Int → PyData → Prop) (hl : GDs t σ S [.int hi]) (h2 : 0 ≤ hi ∧ hi ≤ 1000)
    (hs : ∀ x, 0 ≤ x → x < hi → ∀ S1, Same S S1 → TurnE p cs ns c σ vs g tt te S1 (.int x) (Pxy x)) : Ge p cs ns (c * hi.toNat) (tLc (iRng1 t) g tt te vs) σ S fun S' v => ∃ ds, Paired Pxy (irange 0 hi) ds ∧ DD S' v (.list ds) := fun n S1 H a b pn hn Q q =>
  hl S1 H a b _ fun x S2 H2 g2 hx => by
    obtain ⟨y, r, rfl, hy, hx⟩ := hx.consE
    cases hx; cases hy
    have e0 : (irange 0 hi).length = hi.toNat := by rw [irange_len]; congr 1; omega
    refine ⟨hi, rfl, by omega, by omega, fun Dl hD => ?_⟩
    have hd := pen_ne (pn.gr g2) hD
    refine lc_range (LeI p cs ns n c (irange 0 hi) Pxy Dl S2 H2) (LeI.start g2.sh hD (pn.gr g2)) (fun i H' hi' hp => ?_) fun H' hp => hp.done e0.symm g2 hD hd fun v S' H' g' pn' h' => q v S' H' g' (by rw [e0] at pn'; exact pn') h'
    exact hp.turn hd (irange_get (by omega)) (by rw [e0]; exact Nat.le_trans (show _ ≤ 1000 by omega) (by decide)) (by rw [e0]; exact hn) fun S4 s4 => hs _ (by omega) (by omega) S4 ((a.trans g2.ss).trans s4)
/-- a test that draws, the items kept as they are -/
theorem eLcF {α : Type} {j : Nat} (l : List α) (enc : α → PyData) (hl : GD tl σ S (.list (l.map enc))) (hz : l.length ≤ sizeLine) (hw : ∀ v, wipe ((wipe σ vs).set j (some v)) vs = wipe σ vs) (hj : ∀ v, ((wipe σ vs).set j (some v))[j]? = some (some v))
    (ht : ∀ x ∈ l, ∀ v n S1 H, Same S S1 → Same S1 H → PenAt p cs ns n S1 H → n + c ≤ PB → ∀ Q : Bool → Hp → Prop, (∀ b S' H', Gr [p] S1 H S' H' → PenAt p cs ns (n + c) S' H' → Q b H') → tt ((wipe σ vs).set j (some v)) H Q) :
    Ge p cs ns (c * l.length) (tLc (iList K tl) (gName j) tt (tVar j) vs) σ S fun S' v => ∃ m : List α, (∀ x ∈ m, x ∈ l) ∧ m.length ≤ l.length ∧ DD S' v (.list (m.map enc)) := fun n S1 H a b pn hn Q q =>
  hl S1 H a b _ fun x S2 H2 g2 hx => by
    obtain ⟨A, xs, rfl, h1, h2⟩ := hx.lstE
    refine ⟨A, rfl, ⟨xs, SqL.of (g2.sh _ _ h1)⟩, fun Dl hD => ?_⟩
    have hd := pen_ne (pn.gr g2) hD
    refine lc_list (xs := xs) (fun i H' => ∃ S' acc m, Gr [Dl, p] S2 (upd H2 Dl (.lst [])) S' H' ∧ S' Dl = none ∧ H' Dl = some (.lst acc) ∧ PenAt p cs ns (n + c * i) S' H' ∧ (∀ x ∈ m, x ∈ l) ∧ m.length ≤ i ∧ DDs S' acc (m.map enc)) ⟨S2, [], [], Gr.refl (Gr.priv g2.sh hD).sh, g2.sh.free hD, upd_same, (pn.gr g2).put hd, by simp, Nat.le_refl _, .nil⟩ (fun i H' _ hp => ?_) (fun i x H' hx hp => ?_) fun H' hp => ?_
    · obtain ⟨S', acc, ds, gr, _⟩ := hp
      exact SqL.of (gr.sh _ _ (gr.ss _ _ h1))
    · obtain ⟨S', acc, m, gr, hn', e, pn', hm, ml, hacc⟩ := hp
      obtain ⟨d, hd', hv⟩ := h2.get hx
      obtain ⟨z, hz', rfl⟩ := map_get hd'
      have hi := (List.getElem?_eq_some_iff.mp hz').1
      have hci : c * i + c ≤ c * l.length := by
        rw [← Nat.mul_succ]
        exact Nat.mul_le_mul_left c hi
      refine ⟨hw x, ht z (List.mem_of_getElem? hz') x (n + c * i) S' H' ((a.trans g2.ss).trans gr.ss) gr.sh pn' (by omega) _ fun b S3 H3 g3 pn3 => ?_⟩
      have e3 : H3 Dl = some (.lst acc) := g3.hh _ _ (by simpa using hd) e
      have n3 : S3 Dl = none := g3.hide hn' e
      cases b with
      | true =>
        refine iteT ⟨x, hj x, acc, e3, ?_, S3, acc ++ [x], m ++ [z], (gr.trans (g3.up (by simp))).put (by simp) n3, n3, upd_same, (pn3.put hd).le (by rw [Nat.mul_succ]; omega), fun y hy => ?_, by rw [List.length_append]; exact Nat.succ_le_succ ml, ?_⟩
        · rw [hacc.len, List.length_map]
          omega
        · rcases List.mem_append.mp hy with hy | hy
          · exact hm y hy
          · rw [List.mem_singleton.mp hy]
            exact List.mem_of_getElem? hz'
        · rw [List.map_append]
          exact (hacc.mono g3.ss).snoc (hv.mono (gr.ss.trans g3.ss))
      | false => exact iteF ⟨S3, acc, m, gr.trans (g3.up (by simp)), n3, e3, pn3.le (by rw [Nat.mul_succ]; omega), hm, by omega, hacc.mono g3.ss⟩
    · obtain ⟨S', acc, m, gr, hn', e, pn', hm, ml, hacc⟩ := hp
      have hxl : xs.length = l.length := by rw [h2.len, List.length_map]
      rw [hxl] at pn' ml
      have g0 : Gr [p] S2 H2 S2 (upd H2 Dl (.lst [])) := (Gr.priv g2.sh hD).up0
      have g3 : Gr [p] S2 H2 S' H' := Gr.over (fr := [Dl]) (ex := [p]) g0 gr (by simpa using hD)
      have g4 := (g2.up0 (ex := [p])).trans g3
      refine q _ _ _ (g4.tell (g2.same.free hD) hn' e) ?_ ⟨m, hm, ml, .lst upd_same (hacc.mono (same_upd' hn'))⟩
      obtain ⟨p1, p2, k, rest, p3, p5⟩ := pn'
      exact ⟨by rw [upd_ne hd.symm]; exact p1, same_upd' hn' _ _ p2, k, rest, p3, p5⟩
end
end PF
-- part PfN4
set_option Elab.async false
set_option linter.all false
set_option maxRecDepth 100000
set_option maxHeartbeats 4000000
namespace PF
open PySem PySem.Spec PyProof.Rows L2
theorem sc_law_writ : FnScope ["_law_pen_here", "_law_given", "_law_many", "_law_one", "_law_k"] ["_law_pen_here", "_law_given", "_law_many"] (defScope s_law_writ) := ⟨rfl, rfl, rfl, by decide +kernel, rfl, by decide +kernel, by decide +kernel⟩
/-- texts of one sign, joined -/
theorem joinL_signs : ∀ cs : List Nat, TL.joinL [] (cs.map fun c => [c]) = cs
  | [] => rfl
  | [c] => rfl
  | c :: d :: r => by
    show [c] ++ ([] ++ TL.joinL [] ((d :: r).map fun c => [c])) = c :: d :: r
    rw [joinL_signs (d :: r)]
    rfl
theorem join_signs (cs : List Nat) : Txt.join ("" : Str) (cs.map fun c => (⟨#[c]⟩ : Str)) = ⟨cs.toArray⟩ := by
  rw [TL.join_eq]
  have h := TL.tl_join ("" : Str) (cs.map fun c => (⟨#[c]⟩ : Str))
  rw [List.map_map] at h
  have e : (cs.map (TL.tl ∘ fun c => (⟨#[c]⟩ : Str))) = cs.map fun c => [c] := rfl
  rw [e] at h
  have e2 : TL.tl ("" : Str) = [] := by decide +kernel
  rw [e2, joinL_signs] at h
  generalize Str.join ("" : Str) (cs.map fun c => (⟨#[c]⟩ : Str)) = x at h
  obtain ⟨a⟩ := x
  have h : a.toList = cs := h
  rw [← h]
def rJoin (K : PySem.W.Frag) : V → List V → Hp → VK → Prop := fun x xs H Q => ∃ a p, ∃ ys : List Str, x = .str a ∧ xs = [.ref p] ∧ (SqL K H p (ys.map V.str) ∨ SqT K H p (ys.map V.str)) ∧ (ys.map (·.length)).sum + ys.length * a.length ≤ 16777216 ∧ Q (.str (Txt.join a ys)) H
theorem paired_signs {α : Type} {L : List Nat} : ∀ {l : List α} {ds : List PyData}, Paired (fun (_ : α) d => ∃ c ∈ L, d = eSg c) l ds → ∃ cs : List Nat, cs.length = l.length ∧ (∀ c ∈ cs, c ∈ L) ∧ ds = cs.map eSg
  | _, _, .nil => ⟨[], rfl, by simp, rfl⟩
  | _, _, .cons h t => by
    obtain ⟨c, hc, rfl⟩ := h
    obtain ⟨cs, h1, h2, rfl⟩ := paired_signs t
    exact ⟨c :: cs, by rw [List.length_cons, h1]; rfl, fun x hx => by
      rcases List.mem_cons.mp hx with rfl | hx
      · exact hc
      · exact h2 x hx, rfl⟩
section
variable {p cs : Addr} {ns : List Int} {c c1 c2 c3 c4 c5 : Nat} {S S' H : Hp} {σ : L2.St} {ta tb tc te tl : TE} {tt : TT} {R R1 R2' R3 R' : Hp → V → Prop} {K : PySem.W.Frag} {r : R2} {D : Ends} {g : TG} {vs : List Nat}
theorem joinQ {v : V} {cs' : List Nat} {Q : VK} (hv : DD S v (.list (cs'.map eSg))) (sS : Same S H) (hl : cs'.length ≤ 1000) (q : Q (.str ⟨cs'.toArray⟩) H) : rJoin K (.str "") [v] H Q := by
  obtain ⟨a, xs, rfl, h1, h2⟩ := hv.lstE
  have h3 : DDs S xs ((cs'.map fun c => (⟨#[c]⟩ : Str)).map .str) := by rw [List.map_map]; exact h2
  obtain rfl := h3.strs
  refine ⟨"", a, cs'.map fun c => (⟨#[c]⟩ : Str), rfl, rfl, .inl (SqL.of (sS _ _ h1)), ?_, by rw [join_signs]; exact q⟩
  rw [List.map_map, List.length_map]
  have e : (cs'.map (Str.length ∘ fun c => (⟨#[c]⟩ : Str))) = List.replicate cs'.length 1 := by
    rw [List.eq_replicate_iff]
    exact ⟨List.length_map .., fun b hb => by obtain ⟨x, _, rfl⟩ := List.mem_map.mp hb; rfl⟩
  rw [e, List.sum_replicate_nat]
  have : ("" : Str).length = 0 := by decide +kernel
  rw [this]
  omega
theorem eJoin {Pc : List Nat → Prop} (h : Ge p cs ns c te σ S fun S' v => ∃ l : List Nat, Pc l ∧ DD S' v (.list (l.map eSg))) (hl : ∀ l, Pc l → l.length ≤ 1000) : Ge p cs ns c (tM1 (rJoin K) (tC (.str "")) te) σ S fun S' v => ∃ l : List Nat, Pc l ∧ v = .str ⟨l.toArray⟩ := fun n S1 H a b pn hn Q q =>
  ⟨⟨_, rfl⟩, h n S1 H a b pn hn _ fun v S2 H2 g pn2 hv => by
    obtain ⟨l, hP, hv⟩ := hv
    exact joinQ hv g.sh (hl l hP) (q _ S2 H2 g pn2 ⟨l, hP, rfl⟩)⟩
section
variable {P : Program} {w : World} {mg : Str → Option Value} {base : Heap}
def RpWrit : Addr → Hp → List V → (Hp → V → Prop) → Prop := fun p S vs Post => ∃ (gv : V) (r : Rl) (m : Int), vs = [.ref p, gv, .int m] ∧ RulesAt S gv r ∧ 1 ≤ r.letters.length ∧ r.letters.length ≤ 30 ∧ 0 ≤ m ∧ m ≤ 7 ∧ Post = fun S' v => ∃ l : List Nat, (l.length = m.toNat ∧ ∀ c ∈ l, c ∈ r.letters.cps.toList) ∧ v = .str ⟨l.toArray⟩
theorem ok_law_writ {f : Addr} {fd : FuncData} {k : Nat} (F : Fun K "_law_writ" "_law_writ" s_law_writ f fd) (B : BI mg) (c_law_pick : Ok P w K mg base "_law_pick" ["_law_pen_here", "_law_some"] 2 (spE 1 RpPick)) (hk : 2 ≤ k) : FnOk P w K mg base CX0 (k + 1) f fd ["_law_pen_here", "_law_given", "_law_many"] (spE 30 RpWrit) := by
  refine F.ok sc_law_writ (fun vs H Q E h => by obtain ⟨p, cs, ns, n, S, Post, _, _, _, _, ⟨g, r, m, rfl, _⟩, _⟩ := h; rfl) fun cdv A outer s H vs Q E hr h => ?_
  obtain ⟨p, cs, ns, n, S, Post, _, sS, pn, hB, ⟨gv, r, m, rfl, hR, l1, l2, m0, m1, rfl⟩, q⟩ := h
  refine ⟨_, (pss_cons (ps_set (i := 3) sc_law_writ.nd rfl (by first | exact .inl rfl | exact .inr rfl) (pe_ok c_law_pick (hr.mono (by omega)) (by rfl) (pa_cons (pv 0) (pa_cons (pe_ix (ix_seq : IxR _ (rIx K)) (pv 1) pe_int (fun _ _ => rfl)) pa_nil))))
      (pss_one (ps_ret (pe_join pe_str (pe_lc (own := [("_law_k", 4)]) (g := (gName 4)) (by rfl) sc_law_writ.nd (pi_range1 (by rfl) B.range (pa_cons (pv 2) pa_nil)) (blkOk_by (own := [("_law_k", 4)]) (N := ["_law_pen_here", "_law_given", "_law_many", "_law_one", "_law_k"]) (sc := defScope s_law_writ) (by decide +kernel)) (fun _ _ _ _ _ => (pg_name (i := 4) sc_law_writ.nd rfl (by first | exact .inl rfl | exact .inr rfl))) (fun _ _ _ _ _ => pts_nil) (fun _ _ _ _ _ => (pe_ok c_law_pick (hr.mono (by omega)) (by rfl) (pa_cons (pv 0) (pa_cons (pe_lst (pa_cons (pv 3) (pa_cons (pe_ok c_law_pick (hr.mono (by omega)) (by rfl) (pa_cons (pv 0) (pa_cons (pe_ix (ix_seq : IxR _ (rIx K)) (pv 1) pe_int (fun _ _ => rfl)) pa_nil))) (pa_cons (pe_ok c_law_pick (hr.mono (by omega)) (by rfl) (pa_cons (pv 0) (pa_cons (pe_ix (ix_seq : IxR _ (rIx K)) (pv 1) pe_int (fun _ _ => rfl)) pa_nil))) pa_nil)))) pa_nil))))))))), ?_⟩
  refine eAsg (n := n) (ePickS (gRul0 (gRul hR)) l1 (by omega)) sS pn (by omega) fun x S1 H1 g1 pn1 hx => ?_
  obtain ⟨c0, hc0, rfl⟩ := hx
  have hR1 := hR.mono g1.ss
  refine eRet (n := n + 1) (c := 3 * m.toNat) (R := fun S' v => ∃ l : List Nat, (l.length = m.toNat ∧ ∀ c ∈ l, c ∈ r.letters.cps.toList) ∧ v = .str ⟨l.toArray⟩) (eJoin ((eLcR (c := 3) (fun _ d => ∃ c ∈ r.letters.cps.toList, d = eSg c) (gaCons (gV (.int m)) gaNil) (by omega) fun x h1 h2 S2 e => turnEN rfl gYes ?_).weak fun S' v a h => ?_) fun l hl => by omega) g1.sh (pn1.le (by omega)) (by omega) fun v S4 H4 g4 pn4 hv => q v S4 H4 (g1.trans g4) (pn4.le (by omega)) hv
  · have pk : ∀ {S5 : Hp}, Same S2 S5 → Ge p cs ns 1 (tCall (spE 1 RpPick) [] E0 (tCons (tVar 0) (tCons (tOp (rIx K) (tVar 1) (tC (.int 0))) tNil))) _ S5 (Sm' fun d => ∃ c ∈ r.letters.cps.toList, d = eSg c) := fun e5 =>
      (ePickS (σ := (wipe [some (.ref p), some gv, some (.int m), some (.str ⟨#[c0]⟩), none] [4]).set 4 (some (.int x))) (gRul0 (gRul ((hR1.mono e).mono e5))) l1 (by omega)).weak fun S6 v _ h => by
        obtain ⟨c, hc, rfl⟩ := h
        exact ⟨eSg c, ⟨c, hc, rfl⟩, .str _⟩
    refine (Ge.weak (eCallE (c := 1) (RP := RpPick) (c1 := 0 + (1 + 1)) (R := fun S' v => ∃ c ∈ r.letters.cps.toList, v = .str ⟨#[c]⟩) ?_) fun S6 v _ h => ?_)
    · refine eaCons' (c2 := 1 + 1) (gvI (mV (.ref p)) rfl).e fun S5 y e5 hy => ?_
      subst hy
      refine (eaCons' (c1 := 1 + 1) (c2 := 0) (eLstE (m := 3) (P := fun d => ∃ c ∈ r.letters.cps.toList, d = eSg c) (c := 0 + (1 + (1 + 0))) (eaC (eD (gV (.str _)) ⟨c0, hc0, rfl⟩) (eaC (pk e5) (eaC (pk e5) eaN))) (by decide)) fun S6 y2 e6 hy2 => eaNil.weak fun S7 vs e7 hvs => ?_)
      subst hvs
      obtain ⟨ds, hd1, hd2, hd3⟩ := hy2
      refine ⟨rfl, y2, rfl, .inl ⟨ds, hd3.mono e7, by omega, by omega, fun S8 v8 h8 => ?_⟩⟩
      obtain ⟨d, hd4, hd5⟩ := h8
      obtain ⟨c, hc, rfl⟩ := hd2 d hd4
      cases hd5
      exact ⟨c, hc, rfl⟩
    · obtain ⟨c, hc, rfl⟩ := h
      exact ⟨eSg c, ⟨c, hc, rfl⟩, .str _⟩
  · obtain ⟨ds, hp, hd⟩ := h
    obtain ⟨l, h1, h2, rfl⟩ := paired_signs hp
    refine ⟨l, ⟨by rw [h1, irange_len]; congr 1; omega, h2⟩, hd⟩
end
end
end PF
-- part PfN5
set_option Elab.async false
set_option linter.all false
set_option maxRecDepth 100000
set_option maxHeartbeats 4000000
namespace PF
open PySem PySem.Spec PyProof.Rows L2
theorem sc_law_cheaper : FnScope ["_law_pen_here", "_law_given", "_law_pairs_so", "_law_both", "_law_worth_here", "_law_loops_so", "_law_stacks_so", "_law_row"] ["_law_pen_here", "_law_given"] (defScope s_law_cheaper) := ⟨rfl, rfl, rfl, by decide +kernel, rfl, by decide +kernel, by decide +kernel⟩
def rMax2 : List V → Hp → VK → Prop := fun xs H Q => ∃ i j, xs = [.int i, .int j] ∧ Q (.int (if j > i then j else i)) H
theorem call_max2' {X : Cx} (hc : X.calm = true) : CallR X (.builtin "max") rMax2 := call_max2 hc
def rTupF (K : PySem.W.Frag) : List V → Hp → VK → Prop := fun xs H Q => ∃ p ys, xs = [.ref p] ∧ SqL K H p ys ∧ ∀ l o, H l = none → o.dict = none → Q (.ref l) (upd H l (.frz o (.tup ys)))
theorem call_tupF' {X : Cx} : CallR X (.type "tuple") (rTupF X.K) := call_tupleF
def rTupL (K : PySem.W.Frag) : List V → Hp → VK → Prop := fun xs H Q => ∃ p ys, xs = [.ref p] ∧ ((SqL K H p ys ∧ ∀ l, H l = none → Q (.ref l) (upd H l (.tup ys))) ∨ (SqT K H p ys ∧ Q (.ref p) H))
theorem call_tupL' {X : Cx} : CallR X (.type "tuple") (rTupL X.K) := call_tuple_of
def ePs (t : Str × Int) : PyData := .tuple [.str t.1, .int t.2]
theorem PairsAt.items {r : Rl} {S : Hp} {v : V} (h : PairsAt r S v) : ∃ tp xs, v = .ref tp ∧ TupF S tp xs ∧ DDs S xs (r.pairs.map ePs) := by
  obtain ⟨tp, ps, rfl, h1, h2⟩ := h
  refine ⟨tp, ps.map V.ref, rfl, h1, ?_⟩
  have all : ∀ {ps : List Addr} {l : List (Str × Int)}, Paired (fun p (kv : Str × Int) => S p = some (.tup [.str kv.1, .int kv.2])) ps l → DDs S (ps.map V.ref) (l.map ePs) := by
    intro ps l q
    induction q with
    | nil => exact .nil
    | cons h t ih => exact .cons (.tup h (.cons (.str _) (.cons (.int _) .nil))) ih
  exact all h2
theorem pairs_of {S : Hp} {tp : Addr} : ∀ {l : List (Str × Int)} {xs : List V}, DDs S xs (l.map ePs) → ∃ ps : List Addr, xs = ps.map V.ref ∧ Paired (fun p (kv : Str × Int) => S p = some (.tup [.str kv.1, .int kv.2])) ps l
  | [], _, h => by cases h; exact ⟨[], rfl, .nil⟩
  | t :: l, _, h => by
    cases h with
    | cons h1 h2 =>
      obtain ⟨ps, rfl, hp⟩ := pairs_of (tp := tp) h2
      obtain ⟨a, ys, rfl, e1, e2⟩ := h1.tupE
      obtain ⟨y1, r1, rfl, k1, e2⟩ := e2.consE
      obtain ⟨y2, r2, rfl, k2, e2⟩ := e2.consE
      cases e2; cases k1; cases k2
      exact ⟨a :: ps, rfl, .cons e1 hp⟩
theorem RulesAt.mk {S : Hp} {a : Addr} {v1 v3 v4 : V} {r : Rl} (h : S a = some (.tup [.str r.letters, v1, .int r.span, v3, v4])) (h1 : PairsAt r S v1) (h3 : DD S v3 (.tuple (r.loops.map .int))) (h4 : DD S v4 (.tuple (r.stacks.map eStk))) : RulesAt S (.ref a) r := by
  obtain ⟨tp, ps, rfl, p1, p2⟩ := h1
  obtain ⟨tl, xs, rfl, l1, l2⟩ := h3.tupE
  obtain ⟨ts, sv, rfl, s1, s2⟩ := h4.tupE
  obtain rfl := l2.ints
  exact ⟨a, tp, tl, ts, ps, sv, rfl, h, p1, p2, l1, s1, s2⟩
section
variable {p cs : Addr} {ns : List Int} {c c1 c2 c3 c4 c5 : Nat} {S S' H : Hp} {σ : L2.St} {ta tb tc te tl tw : TE} {tt : TT} {R R1 R2' R3 R' : Hp → V → Prop} {K : PySem.W.Frag} {r : R2} {D : Ends} {g : TG} {vs : List Nat}
def InW (S : Hp) (v : V) : Prop := ∃ i, v = .int i ∧ -99 ≤ i ∧ i ≤ 99
theorem eMaxSub {i : Nat} {w m : Int} (hw : GD tw σ S (.int w)) (h1 : w ≤ 99) (h2 : 1 ≤ m ∧ m ≤ 90) (hi : σ[i]? = some (some (.ref p)) := by rfl) :
    Ge p cs ns 1 (tCB rMax2 (tCons (tUn (rU fun i => .int (-i)) (tC (.int 99))) (tCons (tOp (rI0 fun i j => .int (i - j)) tw (tCall (spE 1 RpDraw) [] E0 (tCons (tVar i) (tCons (tC (.int m)) tNil)))) tNil))) σ S InW := fun n S1 H a b pn hn Q q => by
  refine ⟨99, rfl, ?_⟩
  refine hw S1 H a b _ fun v2 S3 H3 g3 hv2 => ?_
  cases hv2
  refine eDraw (cs := cs) (ns := ns) (S := S3) (te := tC (.int m)) gInt h2.1 (by omega) hi n S3 H3 (Same.refl _) g3.sh (pn.gr g3) hn _ fun v3 S4 H4 g4 pn4 hv3 => ?_
  obtain ⟨d, rfl, d0, d1⟩ := hv3
  refine ⟨w, d, rfl, rfl, -99, w - d, rfl, ?_⟩
  refine q _ S4 H4 (g3.up0.trans g4) pn4 ⟨_, rfl, ?_, ?_⟩ <;> split <;> omega
/-- tuple(a list of data) -/
theorem eTupOf {Pd : List PyData → Prop} (h : Ge p cs ns c te σ S fun S' v => ∃ ds, Pd ds ∧ DD S' v (.list ds)) : Ge p cs ns c (tCB (rTupL K) (tCons te tNil)) σ S fun S' v => ∃ ds, Pd ds ∧ DD S' v (.tuple ds) := fun n S1 H a b pn hn Q q =>
  h n S1 H a b pn hn _ fun x S2 H2 g pn2 hx => by
    obtain ⟨ds, hP, hx⟩ := hx
    obtain ⟨q1, xs, rfl, h1, h2⟩ := hx.lstE
    exact ⟨q1, xs, rfl, .inl ⟨SqL.of (g.sh _ _ h1), fun l hl => q _ _ _ (g.trans (Gr.new g.sh hl).up0) (pn2.gr (Gr.new g.sh hl)) ⟨ds, hP, .tup upd_same (h2.mono (same_upd' (g.sh.free hl)))⟩⟩⟩
theorem eTupFOf {Pd : List PyData → Prop} (h : Ge p cs ns c te σ S fun S' v => ∃ ds, Pd ds ∧ DD S' v (.list ds)) : Ge p cs ns c (tCB (rTupF K) (tCons te tNil)) σ S fun S' v => ∃ ds, Pd ds ∧ ∃ l xs, v = .ref l ∧ TupF S' l xs ∧ DDs S' xs ds := fun n S1 H a b pn hn Q q =>
  h n S1 H a b pn hn _ fun x S2 H2 g pn2 hx => by
    obtain ⟨ds, hP, hx⟩ := hx
    obtain ⟨q1, xs, rfl, h1, h2⟩ := hx.lstE
    exact ⟨q1, xs, rfl, SqL.of (g.sh _ _ h1), fun l o hl ho => q _ _ _ (g.trans (Gr.new g.sh hl).up0) (pn2.gr (Gr.new g.sh hl)) ⟨ds, hP, l, xs, rfl, ⟨o, ho, upd_same⟩, h2.mono (same_upd' (g.sh.free hl))⟩⟩
/-- a written tuple of data, some of it drawn -/
theorem eTupE {t : TA} {Pd : List PyData → Prop} (h : GeA p cs ns c t σ S fun S' vs => ∃ ds, Pd ds ∧ DDs S' vs ds) (hz : ∀ ds, Pd ds → ds.length ≤ 64) : Ge p cs ns c (tTup t) σ S fun S' v => ∃ ds, Pd ds ∧ DD S' v (.tuple ds) := fun n S1 H a b pn hn Q q =>
  h n S1 H a b pn hn _ fun xs S2 H2 g pn2 hx => by
    obtain ⟨ds, hP, hx⟩ := hx
    exact ⟨by rw [hx.len]; exact Nat.le_trans (hz ds hP) (by decide), fun o ho => q _ _ _ (g.trans (Gr.new g.sh ho).up0) (pn2.gr (Gr.new g.sh ho)) ⟨ds, hP, .tup upd_same (hx.mono (same_upd' (g.sh.free ho)))⟩⟩
theorem turnET2 {i j : Nat} {tt : TT} {S1 : Hp} {v : V} {d1 d2 : PyData} {Py : PyData → Prop} (h : DD S1 v (.tuple [d1, d2])) (q : ∀ x y, DD S1 x d1 → DD S1 y d2 → wipe (((wipe σ vs).set i (some x)).set j (some y)) vs = wipe σ vs ∧ GT tt (((wipe σ vs).set i (some x)).set j (some y)) S1 true ∧
    Ge p cs ns c te (((wipe σ vs).set i (some x)).set j (some y)) S1 (Sm' Py)) : TurnE p cs ns c σ vs (gTup K 2 (gCons (gName i) (gCons (gName j) gNil))) tt te S1 v Py := by
  obtain ⟨a, xs, rfl, h1, h2⟩ := h.tupE
  obtain ⟨x, r, rfl, hx, h2⟩ := h2.consE
  obtain ⟨y, r, rfl, hy, h2⟩ := h2.consE
  cases h2
  exact ⟨_, fun H Q s q => ⟨a, _, rfl, SqT.of (s _ _ h1), rfl, x, _, rfl, y, _, rfl, rfl, q⟩, q x y hx hy⟩
theorem paired_ps : ∀ {l : List (Str × Int)} {ds : List PyData}, Paired (fun (x : Str × Int) d => ∃ w, -99 ≤ w ∧ w ≤ 99 ∧ d = ePs (x.1, w)) l ds → ∃ m : List (Str × Int), m.map (·.1) = l.map (·.1) ∧ (∀ x ∈ m, -99 ≤ x.2 ∧ x.2 ≤ 99) ∧ ds = m.map ePs
  | _, _, .nil => ⟨[], rfl, by simp, rfl⟩
  | _, _, .cons (a := a) h t => by
    obtain ⟨w, w1, w2, rfl⟩ := h
    obtain ⟨m, h1, h2, rfl⟩ := paired_ps t
    exact ⟨(a.1, w) :: m, by rw [List.map_cons, List.map_cons, h1], fun x hx => by
      rcases List.mem_cons.mp hx with rfl | hx
      · exact ⟨w1, w2⟩
      · exact h2 x hx, rfl⟩
theorem paired_ws {α : Type} : ∀ {l : List α} {ds : List PyData}, Paired (fun (_ : α) d => IsW d) l ds → ∃ m : List Int, m.length = l.length ∧ (∀ x ∈ m, -99 ≤ x ∧ x ≤ 99) ∧ ds = m.map .int
  | _, _, .nil => ⟨[], rfl, by simp, rfl⟩
  | _, _, .cons h t => by
    obtain ⟨w, rfl, w1, w2⟩ := h
    obtain ⟨m, h1, h2, rfl⟩ := paired_ws t
    exact ⟨w :: m, by rw [List.length_cons, h1]; rfl, fun x hx => by
      rcases List.mem_cons.mp hx with rfl | hx
      · exact ⟨w1, w2⟩
      · exact h2 x hx, rfl⟩
theorem paired_st : ∀ {l : List (Str × Str × Int)} {ds : List PyData}, Paired (fun (x : Str × Str × Int) d => ∃ w, -99 ≤ w ∧ w ≤ 99 ∧ d = eStk (x.1, x.2.1, w)) l ds → ∃ m : List (Str × Str × Int), m.map (fun t => (t.1, t.2.1)) = l.map (fun t => (t.1, t.2.1)) ∧ (∀ x ∈ m, -99 ≤ x.2.2 ∧ x.2.2 ≤ 99) ∧ ds = m.map eStk
  | _, _, .nil => ⟨[], rfl, by simp, rfl⟩
  | _, _, .cons (a := a) h t => by
    obtain ⟨w, w1, w2, rfl⟩ := h
    obtain ⟨m, h1, h2, rfl⟩ := paired_st t
    exact ⟨(a.1, a.2.1, w) :: m, by rw [List.map_cons, List.map_cons, h1], fun x hx => by
      rcases List.mem_cons.mp hx with rfl | hx
      · exact ⟨w1, w2⟩
      · exact h2 x hx, rfl⟩
section
variable {P : Program} {w : World} {mg : Str → Option Value} {base : Heap}
def RpCheaper : Addr → Hp → List V → (Hp → V → Prop) → Prop := fun p S vs Post => ∃ (gv : V) (r : Rl), vs = [.ref p, gv] ∧ RulesAt S gv r ∧ RlOk r ∧ Post = fun S' v => ∃ r', RlOk r' ∧ r'.letters = r.letters ∧ RulesAt S' v r'
theorem ok_law_cheaper {f : Addr} {fd : FuncData} {k : Nat} (F : Fun K "_law_cheaper" "_law_cheaper" s_law_cheaper f fd) (B : BI mg) (c_law_draw : Ok P w K mg base "_law_draw" ["_law_pen_here", "_law_many"] 1 (spE 1 RpDraw)) (hk : 2 ≤ k) : FnOk P w K mg base CX0 (k + 1) f fd ["_law_pen_here", "_law_given"] (spE 300 RpCheaper) := by
  refine F.ok sc_law_cheaper (fun vs H Q E h => by obtain ⟨p, cs, ns, n, S, Post, _, _, _, _, ⟨g, r, rfl, _⟩, _⟩ := h; rfl) fun cdv A outer s H vs Q E hr h => ?_
  obtain ⟨p, cs, ns, n, S, Post, _, sS, pn, hB, ⟨gv, r, rfl, hR, ok, rfl⟩, q⟩ := h
  refine ⟨_, (pss_cons (ps_set (i := 2) sc_law_cheaper.nd rfl (by first | exact .inl rfl | exact .inr rfl) (pe_callTy (call_tupF' : CallR _ _ (rTupF K)) (by rfl) B.tuple (by decide +kernel) (pa_cons (pe_lc (own := [("_law_both", 3), ("_law_worth_here", 4)]) (g := (gTup K 2 (gCons (gName 3) (gCons (gName 4) gNil)))) (by rfl) sc_law_cheaper.nd (pi_tup (pe_ix (ix_seq : IxR _ (rIx K)) (pv 1) pe_int (fun _ _ => rfl))) (blkOk_by (own := [("_law_both", 3), ("_law_worth_here", 4)]) (N := ["_law_pen_here", "_law_given", "_law_pairs_so", "_law_both", "_law_worth_here", "_law_loops_so", "_law_stacks_so", "_law_row"]) (sc := defScope s_law_cheaper) (by decide +kernel)) (fun _ _ _ _ _ => (pg_tup (by rfl) (pgs_cons (pg_name (i := 3) sc_law_cheaper.nd rfl (by first | exact .inl rfl | exact .inr rfl)) (pgs_cons (pg_name (i := 4) sc_law_cheaper.nd rfl (by first | exact .inl rfl | exact .inr rfl)) pgs_nil)))) (fun _ _ _ _ _ => pts_nil) (fun _ _ _ _ _ => (pe_tup (pa_cons (pv 3) (pa_cons (pe_callB (call_max2' rfl : CallR _ _ rMax2) (by rfl) B.max (by decide +kernel) (pa_cons (pe_un un_neg pe_int) (pa_cons (pe_op op_sub (pv 4) (pe_ok c_law_draw (hr.mono (by omega)) (by rfl) (pa_cons (pv 0) (pa_cons pe_int pa_nil)))) pa_nil))) pa_nil))))) pa_nil)))
      (pss_cons (ps_set (i := 5) sc_law_cheaper.nd rfl (by first | exact .inl rfl | exact .inr rfl) (pe_callTy (call_tupL' : CallR _ _ (rTupL K)) (by rfl) B.tuple (by decide +kernel) (pa_cons (pe_lc (own := [("_law_worth_here", 4)]) (g := (gName 4)) (by rfl) sc_law_cheaper.nd (pi_tup (pe_ix (ix_seq : IxR _ (rIx K)) (pv 1) pe_int (fun _ _ => rfl))) (blkOk_by (own := [("_law_worth_here", 4)]) (N := ["_law_pen_here", "_law_given", "_law_pairs_so", "_law_both", "_law_worth_here", "_law_loops_so", "_law_stacks_so", "_law_row"]) (sc := defScope s_law_cheaper) (by decide +kernel)) (fun _ _ _ _ _ => (pg_name (i := 4) sc_law_cheaper.nd rfl (by first | exact .inl rfl | exact .inr rfl))) (fun _ _ _ _ _ => pts_nil) (fun _ _ _ _ _ => (pe_callB (call_max2' rfl : CallR _ _ rMax2) (by rfl) B.max (by decide +kernel) (pa_cons (pe_un un_neg pe_int) (pa_cons (pe_op op_sub (pv 4) (pe_ok c_law_draw (hr.mono (by omega)) (by rfl) (pa_cons (pv 0) (pa_cons pe_int pa_nil)))) pa_nil))))) pa_nil)))
      (pss_cons (ps_set (i := 6) sc_law_cheaper.nd rfl (by first | exact .inl rfl | exact .inr rfl) (pe_callTy (call_tupL' : CallR _ _ (rTupL K)) (by rfl) B.tuple (by decide +kernel) (pa_cons (pe_lc (own := [("_law_row", 7)]) (g := (gName 7)) (by rfl) sc_law_cheaper.nd (pi_tup (pe_ix (ix_seq : IxR _ (rIx K)) (pv 1) pe_int (fun _ _ => rfl))) (blkOk_by (own := [("_law_row", 7)]) (N := ["_law_pen_here", "_law_given", "_law_pairs_so", "_law_both", "_law_worth_here", "_law_loops_so", "_law_stacks_so", "_law_row"]) (sc := defScope s_law_cheaper) (by decide +kernel)) (fun _ _ _ _ _ => (pg_name (i := 7) sc_law_cheaper.nd rfl (by first | exact .inl rfl | exact .inr rfl))) (fun _ _ _ _ _ => pts_nil) (fun _ _ _ _ _ => (pe_op (op_add4 : OpR _ _ (rAdd4 K)) (pe_slice (sl_2 : SlR _ (rSl2 K)) (pv 7) po_none (po_some pe_int)) (pe_tup (pa_cons (pe_callB (call_max2' rfl : CallR _ _ rMax2) (by rfl) B.max (by decide +kernel) (pa_cons (pe_un un_neg pe_int) (pa_cons (pe_op op_sub (pe_ix (ix_seq : IxR _ (rIx K)) (pv 7) pe_int (fun _ _ => rfl)) (pe_ok c_law_draw (hr.mono (by omega)) (by rfl) (pa_cons (pv 0) (pa_cons pe_int pa_nil)))) pa_nil))) pa_nil))))) pa_nil)))
      (pss_one (ps_ret (pe_tup (pa_cons (pe_ix (ix_seq : IxR _ (rIx K)) (pv 1) pe_int (fun _ _ => rfl)) (pa_cons (pv 2) (pa_cons (pe_ix (ix_seq : IxR _ (rIx K)) (pv 1) pe_int (fun _ _ => rfl)) (pa_cons (pv 5) (pa_cons (pv 6) pa_nil))))))))))), ?_⟩
  have np := ok.np
  have nst := ok.ns
  have n9 := ok.n9
  refine eAsg (n := n) (eTupFOf (eLcT (c := 1) r.pairs ePs (fun x d => ∃ w, -99 ≤ w ∧ w ≤ 99 ∧ d = ePs (x.1, w)) (Gv.weak (gRul1 (gRul hR)) fun S' v _ h => ?_) (Nat.le_trans np (by decide)) fun x hx u S2 e hu => turnET2 hu fun a b ha hb => ⟨rfl, gYes, ?_⟩)) sS pn (by omega) fun pv S1 H1 g1 pn1 hp1 => ?_
  · obtain ⟨tp, xs, rfl, ht, hd⟩ := h.items
    obtain ⟨o, ho, e⟩ := ht
    exact ⟨tp, xs, rfl, fun H e' => TupF.sq ⟨o, ho, e' _ _ e⟩, hd⟩
  · refine (eTupE (Pd := fun ds => ∃ w, -99 ≤ w ∧ w ≤ 99 ∧ ds = [.str x.1, .int w]) ((eaCons' (c1 := 0) (c2 := 1 + 0) (gV ha).e fun S3 y e3 hy => eaCons' (eMaxSub (gV (hb.mono e3)) (ok.pa x hx).2 ⟨by decide, by decide⟩) fun S4 y2 e4 hy2 => eaNil.weak fun S5 vs e5 hvs => ?_).weak fun _ _ _ h => h) fun ds h => ?_).le (by omega) |>.weak fun S6 v _ h => ?_
    · subst hvs
      obtain ⟨w, rfl, w1, w2⟩ := hy2
      exact ⟨_, ⟨w, w1, w2, rfl⟩, .cons ((hy.mono e4).mono e5) (.cons (.int w) .nil)⟩
    · obtain ⟨w, _, _, rfl⟩ := h
      exact (by decide : 2 ≤ 64)
    · obtain ⟨ds, ⟨w, w1, w2, rfl⟩, h⟩ := h
      exact ⟨_, ⟨w, w1, w2, rfl⟩, h⟩
  obtain ⟨ds1, hpd, tp, xs1, rfl, htp, hd1⟩ := hp1
  obtain ⟨m1, m1a, m1b, rfl⟩ := paired_ps hpd
  have hR1 := hR.mono g1.ss
  refine eAsg (n := n + 1 * r.pairs.length) (eTupOf (eLcT (c := 1) r.loops .int (fun _ d => IsW d) (Gv.weak (gRul3 (gRul hR1)) fun S' v _ h => tupS h) (Nat.le_trans (show _ ≤ 64 by omega) (by decide)) fun x hx u S2 e hu => turnEN rfl gYes ((eMaxSub (gV hu) (ok.lo x hx).2 ⟨by decide, by decide⟩).weak fun S3 v _ h => ?_))) g1.sh pn1 (by omega) fun lv S2 H2 g2 pn2 hl => ?_
  · obtain ⟨i, rfl, i1, i2⟩ := h
    exact ⟨_, ⟨i, rfl, i1, i2⟩, .int i⟩
  obtain ⟨ds2, hpl, hl⟩ := hl
  obtain ⟨m2, m2a, m2b, rfl⟩ := paired_ws hpl
  have hR2 := hR1.mono g2.ss
  refine eAsg (n := n + 1 * r.pairs.length + 1 * r.loops.length) (eTupOf (eLcT (c := 1) r.stacks eStk (fun x d => ∃ w, -99 ≤ w ∧ w ≤ 99 ∧ d = eStk (x.1, x.2.1, w)) (Gv.weak (gRul4 (gRul hR2)) fun S' v _ h => tupS h) (Nat.le_trans nst (by decide)) fun x hx u S3 e hu => turnEN rfl gYes ?_)) g2.sh pn2 (by omega) fun sv S3 H3 g3 pn3 hs => ?_
  · refine (eOp (c1 := 0) (c2 := 1) (R := fun S v => DD S v (.tuple [.str x.1, .str x.2.1])) (GD.is (gSlT (gV hu) goNo (goPart gInt)) rfl).e fun S4 y e4 hy => (eTupE (c := 1 + 0) (Pd := fun ds => ∃ w, -99 ≤ w ∧ w ≤ 99 ∧ ds = [.int w]) (eaCons' (eMaxSub (gIxT (gV (hu.mono e4)) gInt (atI_nat (j := 2) rfl)) (ok.st x hx).2 ⟨by decide, by decide⟩) fun S5 y2 e5 hy2 => eaNil.weak fun S6 vs e6 hvs => ?_) fun ds h => ?_).weak fun S6 v e6 h => ?_).le (by omega)
    · subst hvs
      obtain ⟨w, rfl, w1, w2⟩ := hy2
      exact ⟨_, ⟨w, w1, w2, rfl⟩, .cons (.int w) .nil⟩
    · obtain ⟨w, _, _, rfl⟩ := h
      exact (by decide : 1 ≤ 64)
    · obtain ⟨ds, ⟨w, w1, w2, rfl⟩, hv⟩ := h
      obtain ⟨p1, xs', rfl, a1, a2⟩ := (hy.mono e6).tupE
      obtain ⟨p2, ys', rfl, b1, b2⟩ := hv.tupE
      intro S7 H7 a7 b7 Q k
      refine .inr (.inr (.inr ⟨p1, p2, xs', ys', rfl, rfl, SqT.of (b7 _ _ (a7 _ _ a1)), SqT.of (b7 _ _ (a7 _ _ b1)), by rw [a2.len, b2.len]; exact (by decide : 3 ≤ sizeLine), fun e => ?_, fun _ e => ?_, fun _ _ c' hc' => k _ _ _ (Gr.new b7 hc') ⟨eStk (x.1, x.2.1, w), ⟨w, w1, w2, rfl⟩, .tup upd_same (((a2.append b2).mono a7).mono (same_upd' (b7.free hc')))⟩⟩))
      · subst e; cases a2
      · subst e; cases b2
  obtain ⟨ds3, hps, hs⟩ := hs
  obtain ⟨m3, m3a, m3b, rfl⟩ := paired_st hps
  have hR3 := hR2.mono g3.ss
  have lm1 : m1.length = r.pairs.length := by have := congrArg List.length m1a; rwa [List.length_map, List.length_map] at this
  have lm3 : m3.length = r.stacks.length := by have := congrArg List.length m3a; rwa [List.length_map, List.length_map] at this
  have hpa : PairsAt ⟨r.letters, m1, r.span, m2, m3⟩ S3 (.ref tp) := by
    obtain ⟨ps, rfl, hps'⟩ := pairs_of (tp := tp) hd1
    obtain ⟨o, ho, e⟩ := htp
    exact PairsAt.mono (g2.ss.trans g3.ss) ⟨tp, ps, rfl, ⟨o, ho, e⟩, hps'⟩
  have g123 := (g1.trans g2).trans g3
  refine (gRul0 (K := K) (te := tVar 1) (σ := [some (.ref p), some gv, some (.ref tp), none, none, some lv, some sv, none]) (gRul hR3)) S3 H3 (Same.refl _) g3.sh _ fun v0 S4 H4 g4 h0 => ?_
  cases h0
  refine ⟨_, rfl, ?_⟩
  refine (gRul2 (K := K) (te := tVar 1) (σ := [some (.ref p), some gv, some (.ref tp), none, none, some lv, some sv, none]) (gRul (hR3.mono g4.ss))) S4 H4 (Same.refl _) g4.sh _ fun v2 S5 H5 g5 h2 => ?_
  cases h2
  refine ⟨_, rfl, _, rfl, (by decide : 5 ≤ sizeLine), fun t ht => ?_⟩
  have g45 := g4.trans g5
  have gn := Gr.new (o := .tup [.str r.letters, .ref tp, .int r.span, lv, sv]) g5.sh ht
  have s35 : Same S3 (upd S5 t (.tup [.str r.letters, .ref tp, .int r.span, lv, sv])) := g45.ss.trans gn.ss
  refine q _ _ _ (g123.trans (g45.trans gn).up0) (((pn3.gr g45).gr gn).le (by omega)) ⟨⟨r.letters, m1, r.span, m2, m3⟩, ?_, rfl, RulesAt.mk upd_same (hpa.mono s35) (hl.mono (g3.ss.trans s35)) (hs.mono s35)⟩
  have k1 : ∀ x ∈ m1, ∃ y ∈ r.pairs, y.1 = x.1 := fun x hx => by
    have : x.1 ∈ r.pairs.map (·.1) := by rw [← m1a]; exact List.mem_map.mpr ⟨x, hx, rfl⟩
    obtain ⟨y, hy, e⟩ := List.mem_map.mp this
    exact ⟨y, hy, e⟩
  have k3 : ∀ x ∈ m3, ∃ y ∈ r.stacks, y.1 = x.1 ∧ y.2.1 = x.2.1 := fun x hx => by
    have : (x.1, x.2.1) ∈ r.stacks.map (fun t => (t.1, t.2.1)) := by rw [← m3a]; exact List.mem_map.mpr ⟨x, hx, rfl⟩
    obtain ⟨y, hy, e⟩ := List.mem_map.mp this
    exact ⟨y, hy, (Prod.mk.inj e).1, (Prod.mk.inj e).2⟩
  exact ⟨ok.nl, by show m1.length ≤ 100; omega, by show m3.length ≤ 100; omega, by show m2.length = 9; omega, ok.sp, m2b, m1b, fun x hx => by obtain ⟨y, hy, e⟩ := k1 x hx; rw [← e]; exact ok.p2 y hy, m3b, fun x hx => by obtain ⟨y, hy, e1, e2⟩ := k3 x hx; rw [← e1, ← e2]; exact ok.s2 y hy, ok.lk,
    fun x hx => by obtain ⟨y, hy, e⟩ := k1 x hx; rw [← e]; exact ok.po y hy, fun x hx => by obtain ⟨y, hy, e1, e2⟩ := k3 x hx; rw [← e1, ← e2]; exact ok.so y hy, by show (m3.map fun t => (t.1, t.2.1)).Nodup; rw [m3a]; exact ok.nd⟩
end
end
end PF
-- part PfN6
set_option Elab.async false
set_option linter.all false
set_option maxRecDepth 100000
set_option maxHeartbeats 4000000
namespace PF
open PySem PySem.Spec PyProof.Rows L2
section
variable {p cs : Addr} {ns : List Int} {c c1 c2 c3 c4 c5 : Nat} {S S' H : Hp} {σ : L2.St} {ta tb tc te tl tw : TE} {tt : TT} {R R1 R2' R3 R' : Hp → V → Prop} {K : PySem.W.Frag} {r : R2} {D : Ends} {g : TG} {vs : List Nat}
section
variable {P : Program} {w : World} {mg : Str → Option Value} {base : Heap}
def spPen (K : PySem.W.Frag) : Sp := fun vs H Q _ => ∃ (a : Addr) (ns : List Int) (S : Hp), vs = [.ref a] ∧ SqL K H a (ns.map V.int) ∧ Same S H ∧ ∀ p cs ns' S' H', Gr [] S H S' H' → H p = none → PenAt p cs ns' 0 S' H' → Q (.ref p) H'
theorem ok_law_pen {f : Addr} {fd : FuncData} {k : Nat} (F : Fun K "_law_pen" "_law_pen" s_law_pen f fd) : FnOk P w K mg base CX0 (k + 1) f fd ["_law_script"] (spPen K) := by
  refine F.ok sc_law_pen (fun vs H Q E h => by obtain ⟨a, ns, S, rfl, _⟩ := h; rfl) fun cdv A outer s H vs Q E hr h => ?_
  obtain ⟨a, ns, S, rfl, hq, sS, q⟩ := h
  refine ⟨_, (pss_one (ps_ret (pe_lst (pa_cons (pe_slice (sl_2 : SlR _ (rSl2 K)) (pv 0) po_none (po_some pe_int)) (pa_cons pe_int (pa_cons pe_int pa_nil)))))), ?_⟩
  refine ⟨_, rfl, _, rfl, .inl ⟨a, ns.map V.int, rfl, hq, fun c hc => ?_⟩⟩
  have g1 := Gr.new (o := .lst (cutV (ns.map V.int) none (some 63))) sS hc
  refine ⟨(by decide : 3 ≤ sizeLine), fun p hp => ?_⟩
  have g2 := Gr.priv (o := .lst [.ref c, .int 0, .int 0]) g1.sh hp
  have e : cutV (ns.map V.int) none (some 63) = (cutA ns none (some 63)).map V.int := by
    unfold cutV cutA
    rw [List.length_map, List.map_take, List.map_drop]
  refine q p c (cutA ns none (some 63)) _ _ (g1.trans g2) (g1.same.free hp) ⟨g1.sh.free hp, by rw [upd_same, e], 0, 0, upd_same, by decide, by decide⟩
end
end
end PF
-- part PfN7
set_option Elab.async false
set_option linter.all false
set_option maxRecDepth 100000
set_option maxHeartbeats 4000000
namespace PF
open PySem PySem.Spec PyProof.Rows L2
section
variable {p cs : Addr} {ns : List Int} {c c1 c2 c3 c4 c5 : Nat} {S S' H : Hp} {σ : L2.St} {ta tb tc te tl tw td ty tv : TE} {tt : TT} {R R1 R2' R3 R' : Hp → V → Prop} {K : PySem.W.Frag} {r : R2} {D : Ends} {g : TG} {vs : List Nat}
theorem gJoin {Pc : List Nat → Prop} (h : Gv te σ S fun S' v => ∃ l : List Nat, Pc l ∧ DD S' v (.list (l.map eSg))) (hl : ∀ l, Pc l → l.length ≤ 1000) : Gv (tM1 (rJoin K) (tC (.str "")) te) σ S fun S' v => ∃ l : List Nat, Pc l ∧ v = .str ⟨l.toArray⟩ := fun S1 H a b Q q =>
  ⟨⟨_, rfl⟩, h S1 H a b _ fun v S2 H2 g hv => by
    obtain ⟨l, hP, hv⟩ := hv
    exact joinQ hv g.sh (hl l hP) (q _ S2 H2 g ⟨l, hP, rfl⟩)⟩
/-- xs[:k] of a drawn list -/
theorem eSlL {α : Type} {enc : α → PyData} {Pl : List α → Prop} {k : Int} (h : Ge p cs ns c te σ S fun S' v => ∃ l : List α, Pl l ∧ DD S' v (.list (l.map enc))) : Ge p cs ns c (tSl (rSl2 K) te tNoPart (tPart (tC (.int k)))) σ S fun S' v => ∃ l : List α, Pl l ∧ DD S' v (.list ((cutA l none (some k)).map enc)) := fun n S1 H a b pn hn Q q =>
  h n S1 H a b pn hn _ fun x S2 H2 g pn2 hx => by
    obtain ⟨l, hP, hx⟩ := hx
    obtain ⟨q1, xs, rfl, h1, h2⟩ := hx.lstE
    refine ⟨k, rfl, .inl ⟨q1, xs, rfl, SqL.of (g.sh _ _ h1), fun o ho => q _ _ _ (g.trans (Gr.new g.sh ho).up0) (pn2.gr (Gr.new g.sh ho)) ⟨l, hP, .lst upd_same ?_⟩⟩⟩
    have e : (cutA l none (some k)).map enc = cutA (l.map enc) none (some k) := by
      unfold cutA
      rw [List.length_map, List.map_take, List.map_drop]
    rw [e]
    exact h2.cut.mono (same_upd' (g.sh.free ho))
theorem gRepT {ds : List PyData} {k : Int} (ha : GD ta σ S (.tuple ds)) (hb : GD tb σ S (.int k)) (h0 : ds ≠ []) (h1 : 2 ≤ k ∧ k ≤ 1000) (h2 : ds.length ≤ 1000) : GD (tOp (rRepT K) ta tb) σ S (.tuple (List.replicate k.toNat ds).flatten) :=
  gOpD ha hb fun S2 x y a hx hy => by
    cases hy
    obtain ⟨q1, xs, rfl, e1, e2⟩ := hx.tupE
    have rep : ∀ m : Nat, DDs S2 (List.replicate m xs).flatten (List.replicate m ds).flatten := fun m => by
      induction m with
      | zero => exact .nil
      | succ m ih => rw [List.replicate_succ, List.replicate_succ, List.flatten_cons, List.flatten_cons]; exact e2.append ih
    intro S3 H a3 b3 Q q
    refine ⟨q1, k, xs, rfl, rfl, SqT.of (b3 _ _ (a3 _ _ e1)), fun e => ?_, h1.1, h1.2, by rw [e2.len]; exact h2, fun o ho => q _ _ _ (Gr.new b3 ho) (.tup upd_same (((rep _).mono a3).mono (same_upd' (b3.free ho))))⟩
    subst e
    cases e2
    exact h0 rfl
/-- a range whose end is drawn -/
theorem fForRE {ts : TS} {n : Nat} (h : Ge p cs ns c te σ S fun S' v => ∃ m : Int, v = .int m ∧ R S' v ∧ 0 ≤ m ∧ m ≤ 1000) (sS : Same S H) (pn : PenAt p cs ns n S H) (hn : n + c ≤ PB)
    (lp : ∀ m S1 H1, Gr [p] S H S1 H1 → PenAt p cs ns (n + c) S1 H1 → R S1 (.int m) → 0 ≤ m → m ≤ 1000 → ∃ (ex : List Addr) (I : Nat → L2.St → Hp → Hp → Prop), I 0 σ S1 H1 ∧
      (∀ (i : Nat) σ' S' H' (N : L2.St → Hp → Prop), (i : Int) < m → Gr ex S1 H1 S' H' → I i σ' S' H' → (∀ σ3 S3 H3, Gr ex S' H' S3 H3 → I (i + 1) σ3 S3 H3 → N σ3 H3) →
        g (.int (0 + (i : Int))) σ' H' fun σ2 H2 => ts { D with nx := N, ct := N, bk := D.nx } σ2 H2) ∧ ∀ σ' S' H', Gr ex S1 H1 S' H' → I m.toNat σ' S' H' → D.nx σ' H') : tFor (iRng1 (tCons te tNil)) g ts D σ H :=
  h n S H (Same.refl _) sS pn hn _ fun v S1 H1 g1 pn1 hv => by
    obtain ⟨m, rfl, hr, m0, m1⟩ := hv
    obtain ⟨ex, I, h0, hs, hd⟩ := lp m S1 H1 g1 pn1 hr m0 m1
    refine ⟨m, rfl, by omega, by omega, for_range (LpI ex S1 H1 I S1) ⟨S1, Gr.refl g1.sh, Same.refl _, h0⟩ (fun i σ' H' hi' hp => ?_) fun σ' H' hp => ?_⟩
    · obtain ⟨S', gr, s, hI⟩ := hp
      exact hs i σ' S' H' _ (by omega) gr hI fun σ3 S3 H3 g3 h3 => ⟨S3, gr.trans g3, s.trans g3.ss, h3⟩
    · obtain ⟨S', gr, s, hI⟩ := hp
      exact hd σ' S' H' gr hI
/-- sorted(d), the keys tuples of two texts -/
theorem key_depth (k : List Key) : PyData.depthAll (k.map kD) = 0 := by
  induction k with
  | nil => rfl
  | cons a k ih =>
    rw [List.map_cons, PyData.depthAll, ih]
    cases a <;> rfl
open Classical in
noncomputable def mixS (ys : List (List Key × Addr)) (H S3 : Hp) : Hp := fun b => if ∃ y ∈ ys, y.2 = b then H b else S3 b
theorem mix_in {ys : List (List Key × Addr)} {H S3 : Hp} {b : Addr} (h : ∃ y ∈ ys, y.2 = b) : mixS ys H S3 b = H b := by unfold mixS; rw [if_pos h]
theorem mix_out {ys : List (List Key × Addr)} {H S3 : Hp} {b : Addr} (h : ¬ ∃ y ∈ ys, y.2 = b) : mixS ys H S3 b = S3 b := by unfold mixS; rw [if_neg h]
def IsTT (k : List Key) : Prop := ∃ a b : Str, k = [.inr a, .inr b]
theorem gSortedDT {kvs : Kvs} (hd : Gv te σ S (IsDT kvs)) (hk : ∀ p ∈ kvs, IsTT p.1) : Gv (tCB rSortedDT (tCons te tNil)) σ S fun S' v => ∃ ks : List (List Key), ks.Perm (kvs.map (·.1)) ∧ DD S' v (.list (ks.map fun k => .tuple (k.map kD))) := gCB (ga1 hd) fun S2 vs a hv S3 H a3 b3 Q q => by
  obtain ⟨v, rfl, d, rfl, hd⟩ := hv
  have enc : ∀ k : List Key, (k.map fun x => match x with | .inl i => PyData.int i | .inr z => .str z) = k.map kD := fun k => List.map_congr_left fun x _ => by cases x <;> rfl
  refine ⟨d, kvs, fun k => .tuple (k.map kD), rfl, .inl (b3 _ _ (a3 _ _ hd)), fun k _ => congrArg PyData.tuple (List.map_congr_left fun x _ => by cases x <;> rfl), ?_, ?_, fun k hk' => ?_, fun o ys ho hp hy => ?_⟩
  · intro x hx y hy
    obtain ⟨e1, h1, rfl⟩ := List.mem_map.mp hx
    obtain ⟨e2, h2, rfl⟩ := List.mem_map.mp hy
    obtain ⟨a1, b1, k1⟩ := hk e1 h1
    obtain ⟨a2, b2, k2⟩ := hk e2 h2
    simp only [k1, k2]
    simp [PySem.W.alike, PySem.W.alikeAll, kD]
  · refine .inl fun x hx => ?_
    obtain ⟨e1, h1, rfl⟩ := List.mem_map.mp hx
    obtain ⟨a1, b1, k1⟩ := hk e1 h1
    simp only [k1]
    exact ⟨_, _, rfl⟩
  · rw [PyData.depth, key_depth]
    decide
  · have hn := b3.free ho
    -- the keys' tuples are told besides
    have hyl : ∀ y ∈ ys, ∀ u, S3 y.2 = some u → u = .tup (y.1.map kV) := fun y hy' u e => by
      have := b3 _ _ e
      rw [hy y hy'] at this
      exact (Option.some.inj this).symm
    obtain ⟨S4, h41, h42, h43, h44⟩ : ∃ S4 : Hp, Same S3 S4 ∧ Same S4 H ∧ (∀ y ∈ ys, S4 y.2 = some (.tup (y.1.map kV))) ∧ ∀ b, S3 b = none → S4 b ≠ none → ∃ y ∈ ys, y.2 = b := by
      refine ⟨mixS ys H S3, fun b u e => ?_, fun b u e => ?_, fun y hy' => ?_, fun b e n => ?_⟩
      · by_cases h : ∃ y ∈ ys, y.2 = b
        · rw [mix_in h]; exact b3 _ _ e
        · rw [mix_out h]; exact e
      · by_cases h : ∃ y ∈ ys, y.2 = b
        · rw [mix_in h] at e; exact e
        · rw [mix_out h] at e; exact b3 _ _ e
      · rw [mix_in ⟨y, hy', rfl⟩]; exact hy y hy'
      · by_cases h : ∃ y ∈ ys, y.2 = b
        · exact h
        · rw [mix_out h] at n; exact absurd e n
    have g4 : Gr [] S3 H S4 H := Gr.of (Same.refl _) h41 h42 (fun b e m => by
      cases e4 : S4 b with
      | none => rfl
      | some u =>
        obtain ⟨y, hy', rfl⟩ := h44 b e (by rw [e4]; simp)
        exact absurd (hy y hy') (m.2 _)) fun nt b ps e => by
      cases e3 : S3 b with
      | some u => have := h41 _ _ e3; rw [e] at this; exact nt b ps (by rw [e3, ← this])
      | none =>
        obtain ⟨y, hy', rfl⟩ := h44 b e3 (by rw [e]; simp)
        rw [h43 y hy'] at e
        cases e
    refine q _ _ _ (g4.trans (Gr.new h42 ho)) ⟨ys.map (·.1), hp, .lst upd_same ?_⟩
    have hn4 := h42.free ho
    have all : ∀ (zs : List (List Key × Addr)), (∀ y ∈ zs, S4 y.2 = some (.tup (y.1.map kV))) → DDs S4 (zs.map fun y => V.ref y.2) ((zs.map (·.1)).map fun k => .tuple (k.map kD)) := by
      intro zs
      induction zs with
      | nil => intro _; exact .nil
      | cons y zs ih => intro h; exact .cons (.tup (h y List.mem_cons_self) (DDs.of_keys y.1)) (ih fun z hz => h z (List.mem_cons_of_mem _ hz))
    exact (all ys h43).mono (same_upd' hn4)
end
end PF
-- part PfN8
set_option Elab.async false
set_option linter.all false
set_option maxRecDepth 100000
set_option maxHeartbeats 4000000
namespace PF
open PySem PySem.Spec PyProof.Rows L2
theorem sc_law_rules : FnScope ["_law_pen_here", "_law_first", "_law_many", "_law_letters_so", "_law_k", "_law_texts", "_law_one", "_law_two", "_law_pairs_so", "_law_both", "_law_sums", "_law_rows", "_law_stacks_so", "_law_key"] ["_law_pen_here"] (defScope s_law_rules) := ⟨rfl, rfl, rfl, by decide +kernel, rfl, by decide +kernel, by decide +kernel⟩
def alph : Str := "abcdefghijklmnopqrstuvwxyz"
theorem alph_len : (alph.length : Int) = 26 := by decide +kernel
theorem alph_ok : PyData.strOk alph = true := by decide +kernel
/-- a text of two signs -/
def T2 (s : Str) : Prop := s.length = 2 ∧ PyData.strOk s = true
theorem strOk_arr {l : List Nat} (h : ∀ c ∈ l, c < 0x110000) : PyData.strOk ⟨l.toArray⟩ = true := by
  unfold PyData.strOk
  rw [← Array.all_toList, List.all_eq_true]
  intro x hx
  exact decide_eq_true (h x hx)
theorem ch_code {z : Str} (ok : PyData.strOk z = true) {i : Int} (h0 : 0 ≤ i) (h1 : i < (z.length : Int)) : ∃ c, c < 0x110000 ∧ atI z.cps.toList i = some c ∧ (⟨#[c]⟩ : Str) = chS z i := by
  obtain ⟨c, e1, e2⟩ := ch_at h0 h1
  refine ⟨c, ?_, e1, e2⟩
  have := chS_ok ok i
  rw [← e2] at this
  unfold PyData.strOk at this
  simpa using this
theorem T2_pair {a b : Nat} (ha : a < 0x110000) (hb : b < 0x110000) : T2 ((⟨#[a]⟩ : Str) ++ ⟨#[b]⟩) := by
  refine ⟨rfl, strOk_cat ?_ ?_⟩ <;> simp [PyData.strOk, ha, hb]
def W9 (d : PyData) : Prop := ∃ ws : List Int, ws.length = 9 ∧ (∀ x ∈ ws, -99 ≤ x ∧ x ≤ 99) ∧ d = .tuple (ws.map .int)
theorem cutA_sub {α : Type} {l : List α} {k : Option Int} : ∀ x ∈ cutA l none k, x ∈ l := fun x hx => by
  unfold cutA at hx
  exact List.mem_of_mem_drop (List.mem_of_mem_take hx)
theorem cutA_le {α : Type} {l : List α} {k : Option Int} : (cutA l none k).length ≤ l.length := by
  unfold cutA
  rw [List.length_take, List.length_drop]
  omega
theorem srt_sg (l : List Nat) : Srt (l.map eSg) := by
  have : l.map eSg = (l.map fun c => (⟨#[c]⟩ : Str)).map .str := by rw [List.map_map]; rfl
  rw [this]
  exact srt_strs _
section
variable {p cs : Addr} {ns : List Int} {c c1 c2 c3 c4 c5 : Nat} {S S' H : Hp} {σ : L2.St} {ta tb tc te tl tw td ty tv : TE} {tt : TT} {R R1 R2' R3 R' : Hp → V → Prop} {K : PySem.W.Frag} {r : R2} {D : Ends} {g : TG} {vs : List Nat}
section
variable {P : Program} {w : World} {mg : Str → Option Value} {base : Heap}
def RpRules : Addr → Hp → List V → (Hp → V → Prop) → Prop := fun p S vs Post => vs = [.ref p] ∧ Post = fun S' v => ∃ r, RlOk r ∧ 1 ≤ r.letters.length ∧ RulesAt S' v r
theorem paired_txt : ∀ {l : List Str} {ds : List PyData}, Paired (fun (x : Str) d => ∃ w, -99 ≤ w ∧ w ≤ 99 ∧ d = ePs (x, w)) l ds → ∃ m1 : List (Str × Int), m1.map (·.1) = l ∧ (∀ x ∈ m1, -99 ≤ x.2 ∧ x.2 ≤ 99) ∧ ds = m1.map ePs
  | _, _, .nil => ⟨[], rfl, by simp, rfl⟩
  | _, _, .cons (a := a) h t => by
    obtain ⟨w, w1, w2, rfl⟩ := h
    obtain ⟨m1, h1, h2, rfl⟩ := paired_txt t
    exact ⟨(a, w) :: m1, by rw [List.map_cons, h1], fun x hx => by
      rcases List.mem_cons.mp hx with rfl | hx
      · exact ⟨w1, w2⟩
      · exact h2 x hx, rfl⟩
theorem Gr.free1 {o : Addr} {S H S' H' : Hp} (g : Gr [p] S H S' H') (hop : o ≠ p) (h : H' o = none) : H o = none := by
  cases e : H o with
  | none => rfl
  | some u => rw [g.hh o u (by simpa using hop) e] at h; cases h
/-- the dict of the stacked pairs under way -/
structure KvOk (kvs : Kvs) : Prop where
  ok : ∀ q ∈ kvs, ∃ a b w, q.1 = [.inr a, .inr b] ∧ T2 a ∧ T2 b ∧ q.2 = V.int w ∧ -99 ≤ w ∧ w ≤ 99
  nd : (kvs.map (·.1)).Nodup
theorem KvOk.put {kvs : Kvs} {a b : Str} {w : Int} (h : KvOk kvs) (ha : T2 a) (hb : T2 b) (h1 : -99 ≤ w) (h2 : w ≤ 99) : KvOk (putK kvs [.inr a, .inr b] (.int w)) := by
  have hk : ∀ q ∈ putK kvs [.inr a, .inr b] (.int w), ∃ a b w, q.1 = [.inr a, .inr b] ∧ T2 a ∧ T2 b ∧ q.2 = V.int w ∧ -99 ≤ w ∧ w ≤ 99 := by
    unfold putK
    intro q hq
    split at hq
    · obtain ⟨q', hq', rfl⟩ := List.mem_map.mp hq
      split
      · rename_i he
        exact ⟨a, b, w, he, ha, hb, rfl, h1, h2⟩
      · exact h.ok q' hq'
    · rcases List.mem_append.mp hq with hq | hq
      · exact h.ok q hq
      · rw [List.mem_singleton.mp hq]
        exact ⟨a, b, w, rfl, ha, hb, rfl, h1, h2⟩
  refine ⟨hk, ?_⟩
  unfold putK
  split
  · rename_i hany
    have e : (kvs.map fun kv => if kv.1 = [.inr a, .inr b] then (kv.1, V.int w) else kv).map (·.1) = kvs.map (·.1) := by
      rw [List.map_map]
      refine List.map_congr_left fun x _ => ?_
      show (if x.1 = [.inr a, .inr b] then (x.1, V.int w) else x).1 = x.1
      split <;> rfl
    first
    | (rw [e]; exact h.nd)
    | exact (by simpa using h.nd)
  · rename_i hany
    rw [List.map_append, List.nodup_append]
    refine ⟨h.nd, by simp, fun x hx y hy e => ?_⟩
    rw [List.map_cons, List.map_nil, List.mem_singleton] at hy
    subst hy
    subst e
    obtain ⟨z, hz, e2⟩ := List.mem_map.mp hx
    refine hany ?_
    rw [List.any_eq_true]
    exact ⟨z, hz, by simpa using e2⟩
theorem sh_txts {l : List Str} (h : ∀ t ∈ l, PyData.strOk t = true) : SeqAt.shaped (.list (l.map .str)) = true := by
  have h1 : PyData.canLayAll0 (l.map .str) = true := by
    induction l with
    | nil => rfl
    | cons a l ih => rw [List.map_cons, PyData.canLayAll0, ih fun t ht => h t (List.mem_cons_of_mem _ ht), PyData.canLay0, h a List.mem_cons_self]; rfl
  have h2 : PyData.depthAll (l.map .str) = 0 := by
    clear h h1
    induction l with
    | nil => rfl
    | cons a l ih => rw [List.map_cons, PyData.depthAll, ih]; rfl
  unfold SeqAt.shaped
  rw [PyData.canLay0, h1, PyData.depth, h2]
  rfl
def wOf (kvs : Kvs) (k : List Key) : Int := match valV kvs k with
  | some (.int w) => w
  | _ => 0
def stOf (kvs : Kvs) (k : List Key) : Str × Str × Int := match k with
  | [.inr a, .inr b] => (a, b, wOf kvs k)
  | _ => ("", "", 0)
theorem KvOk.val {kvs : Kvs} (h : KvOk kvs) {k : List Key} (hk : k ∈ kvs.map (·.1)) : ∃ a b, k = [.inr a, .inr b] ∧ T2 a ∧ T2 b ∧ valV kvs k = some (.int (wOf kvs k)) ∧ -99 ≤ wOf kvs k ∧ wOf kvs k ≤ 99 := by
  obtain ⟨q, hq, rfl⟩ := List.mem_map.mp hk
  obtain ⟨a, b, w, e1, h1, h2, _⟩ := h.ok q hq
  refine ⟨a, b, e1, h1, h2, ?_⟩
  have hs : (valV kvs q.1).isSome = true := by
    rw [← valV_any, List.any_eq_true]
    exact ⟨q, hq, by simp⟩
  obtain ⟨v, hv⟩ := Option.isSome_iff_exists.mp hs
  have hv2 := hv
  unfold valV at hv2
  obtain ⟨q2, hq2, rfl⟩ := Option.map_eq_some_iff.mp hv2
  obtain ⟨_, _, w2, _, _, _, e3, w3, w4⟩ := h.ok q2 (List.mem_of_find?_eq_some hq2)
  have : wOf kvs q.1 = w2 := by
    unfold wOf
    rw [hv, e3]
  rw [this, hv, e3]
  exact ⟨rfl, w3, w4⟩
theorem eRulesTup {t : TA} {Pr : Rl → Prop} (h : GeA p cs ns c t σ S fun S' vs => ∃ r v1 v3 v4, vs = [.str r.letters, v1, .int r.span, v3, v4] ∧ PairsAt r S' v1 ∧ DD S' v3 (.tuple (r.loops.map .int)) ∧ DD S' v4 (.tuple (r.stacks.map eStk)) ∧ Pr r) : Ge p cs ns c (tTup t) σ S fun S' v => ∃ r, Pr r ∧ RulesAt S' v r := fun n S1 H a b pn hn Q q =>
  h n S1 H a b pn hn _ fun xs S2 H2 g pn2 hx => by
    obtain ⟨r, v1, v3, v4, rfl, h1, h3, h4, hr⟩ := hx
    refine ⟨(by decide : 5 ≤ sizeLine), fun o ho => q _ _ _ (g.trans (Gr.new g.sh ho).up0) (pn2.gr (Gr.new g.sh ho)) ⟨r, hr, RulesAt.mk upd_same (h1.mono ?_) (h3.mono ?_) (h4.mono ?_)⟩⟩ <;> exact same_upd' (g.sh.free ho)
theorem eWorth {i : Nat} (hi : σ[i]? = some (some (.ref p)) := by rfl) : Ge p cs ns 4 (tCall (spE 4 RpWorth) [] E0 (tCons (tVar i) tNil)) σ S InW :=
  eCall ((ga1 (gvI (mV (.ref p)) rfl hi)).weak fun S2 vs a hv => by
    obtain ⟨x, rfl, rfl⟩ := hv
    exact ⟨rfl, rfl, rfl⟩)
theorem ok_law_rules {f : Addr} {fd : FuncData} {k : Nat} (F : Fun K "_law_rules" "_law_rules" s_law_rules f fd) (B : BI mg) (c_law_draw : Ok P w K mg base "_law_draw" ["_law_pen_here", "_law_many"] 1 (spE 1 RpDraw)) (c_law_pick : Ok P w K mg base "_law_pick" ["_law_pen_here", "_law_some"] 2 (spE 1 RpPick))
    (c_law_worth : Ok P w K mg base "_law_worth" ["_law_pen_here"] 3 (spE 4 RpWorth)) (hk : 3 ≤ k) : FnOk P w K mg base CX0 (k + 1) f fd ["_law_pen_here"] (spE 1000 RpRules) := by
  refine F.ok sc_law_rules (fun vs H Q E h => by obtain ⟨p, cs, ns, n, S, Post, _, _, _, _, ⟨rfl, _⟩, _⟩ := h; rfl) fun cdv A outer s H vs Q E hr h => ?_
  obtain ⟨p, cs, ns, n, S, Post, _, sS, pn, hB, ⟨rfl, rfl⟩, q⟩ := h
  refine ⟨_, (pss_cons (ps_set (i := 1) sc_law_rules.nd rfl (by first | exact .inl rfl | exact .inr rfl) (pe_ok c_law_draw (hr.mono (by omega)) (by rfl) (pa_cons (pv 0) (pa_cons pe_int pa_nil))))
      (pss_cons (ps_set (i := 2) sc_law_rules.nd rfl (by first | exact .inl rfl | exact .inr rfl) (pe_ok c_law_pick (hr.mono (by omega)) (by rfl) (pa_cons (pv 0) (pa_cons (pe_lst (pa_cons pe_int (pa_cons pe_int (pa_cons pe_int (pa_cons pe_int (pa_cons pe_int (pa_cons pe_int pa_nil))))))) pa_nil))))
      (pss_cons (ps_set (i := 3) sc_law_rules.nd rfl (by first | exact .inl rfl | exact .inr rfl) (pe_join pe_str (pe_callB (cr_srt hr.units) (by rfl) B.sorted (by decide +kernel) (pa_cons (pe_lc (own := [("_law_k", 4)]) (g := (gName 4)) (by rfl) sc_law_rules.nd (pi_range1 (by rfl) B.range (pa_cons (pv 2) pa_nil)) (blkOk_by (own := [("_law_k", 4)]) (N := ["_law_pen_here", "_law_first", "_law_many", "_law_letters_so", "_law_k", "_law_texts", "_law_one", "_law_two", "_law_pairs_so", "_law_both", "_law_sums", "_law_rows", "_law_stacks_so", "_law_key"]) (sc := defScope s_law_rules) (by decide +kernel)) (fun _ _ _ _ _ => (pg_name (i := 4) sc_law_rules.nd rfl (by first | exact .inl rfl | exact .inr rfl))) (fun _ _ _ _ _ => pts_nil) (fun _ _ _ _ _ => (pe_ix (ix_seq : IxR _ (rIx K)) pe_str (pe_op op_mod (pe_op (op_add4 : OpR _ _ (rAdd4 K)) (pv 1) (pe_op op_mul pe_int (pv 4))) pe_int) (fun _ _ => rfl)))) pa_nil))))
      (pss_cons (ps_set (i := 5) sc_law_rules.nd rfl (by first | exact .inl rfl | exact .inr rfl) (pe_lst pa_nil))
      (pss_cons (ps_for PassesOwn.never rfl (pi_str (pv 3)) (pg_name (i := 6) sc_law_rules.nd rfl (by first | exact .inl rfl | exact .inr rfl)) (pss_one (ps_set (i := 5) sc_law_rules.nd rfl (by first | exact .inl rfl | exact .inr rfl) (pe_op (op_add4 : OpR _ _ (rAdd4 K)) (pv 5) (pe_lc (own := [("_law_two", 7)]) (g := (gName 7)) (by rfl) sc_law_rules.nd (pi_str (pv 3)) (blkOk_by (own := [("_law_two", 7)]) (N := ["_law_pen_here", "_law_first", "_law_many", "_law_letters_so", "_law_k", "_law_texts", "_law_one", "_law_two", "_law_pairs_so", "_law_both", "_law_sums", "_law_rows", "_law_stacks_so", "_law_key"]) (sc := defScope s_law_rules) (by decide +kernel)) (fun _ _ _ _ _ => (pg_name (i := 7) sc_law_rules.nd rfl (by first | exact .inl rfl | exact .inr rfl))) (fun _ _ _ _ _ => pts_nil) (fun _ _ _ _ _ => (pe_op (op_add4 : OpR _ _ (rAdd4 K)) (pv 6) (pv 7))))))))
      (pss_cons (ps_set (i := 5) sc_law_rules.nd rfl (by first | exact .inl rfl | exact .inr rfl) (pe_slice (sl_2 : SlR _ (rSl2 K)) (pe_lc (own := [("_law_two", 7)]) (g := (gName 7)) (by rfl) sc_law_rules.nd (pi_list (pv 5)) (blkOk_by (own := [("_law_two", 7)]) (N := ["_law_pen_here", "_law_first", "_law_many", "_law_letters_so", "_law_k", "_law_texts", "_law_one", "_law_two", "_law_pairs_so", "_law_both", "_law_sums", "_law_rows", "_law_stacks_so", "_law_key"]) (sc := defScope s_law_rules) (by decide +kernel)) (fun _ _ _ _ _ => (pg_name (i := 7) sc_law_rules.nd rfl (by first | exact .inl rfl | exact .inr rfl))) (fun _ _ _ _ _ => (pts_one (pt_cmpR op_gt (pe_ok c_law_draw (hr.mono (by omega)) (by rfl) (pa_cons (pv 0) (pa_cons pe_int pa_nil))) pe_int (nomark _)))) (fun _ _ _ _ _ => (pv 7))) po_none (po_some pe_int)))
      (pss_cons (ps_set (i := 8) sc_law_rules.nd rfl (by first | exact .inl rfl | exact .inr rfl) (pe_callTy (call_tupF' : CallR _ _ (rTupF K)) (by rfl) B.tuple (by decide +kernel) (pa_cons (pe_lc (own := [("_law_both", 9)]) (g := (gName 9)) (by rfl) sc_law_rules.nd (pi_list (pv 5)) (blkOk_by (own := [("_law_both", 9)]) (N := ["_law_pen_here", "_law_first", "_law_many", "_law_letters_so", "_law_k", "_law_texts", "_law_one", "_law_two", "_law_pairs_so", "_law_both", "_law_sums", "_law_rows", "_law_stacks_so", "_law_key"]) (sc := defScope s_law_rules) (by decide +kernel)) (fun _ _ _ _ _ => (pg_name (i := 9) sc_law_rules.nd rfl (by first | exact .inl rfl | exact .inr rfl))) (fun _ _ _ _ _ => pts_nil) (fun _ _ _ _ _ => (pe_tup (pa_cons (pv 9) (pa_cons (pe_ok c_law_worth (hr.mono (by omega)) (by rfl) (pa_cons (pv 0) pa_nil)) pa_nil))))) pa_nil)))
      (pss_cons (ps_set (i := 10) sc_law_rules.nd rfl (by first | exact .inl rfl | exact .inr rfl) (pe_lst (pa_cons (pe_tup (pa_cons (pe_op op_sub pe_int pe_int) (pa_cons pe_int (pa_cons pe_int (pa_cons pe_int (pa_cons pe_int (pa_cons pe_int (pa_cons pe_int (pa_cons pe_int (pa_cons pe_int pa_nil)))))))))) (pa_cons (pe_op (op_repT : OpR _ _ (rRepT K)) (pe_tup (pa_cons pe_int pa_nil)) pe_int) (pa_cons (pe_callTy (call_tupL' : CallR _ _ (rTupL K)) (by rfl) B.tuple (by decide +kernel) (pa_cons (pe_lc (own := [("_law_k", 4)]) (g := (gName 4)) (by rfl) sc_law_rules.nd (pi_range1 (by rfl) B.range (pa_cons pe_int pa_nil)) (blkOk_by (own := [("_law_k", 4)]) (N := ["_law_pen_here", "_law_first", "_law_many", "_law_letters_so", "_law_k", "_law_texts", "_law_one", "_law_two", "_law_pairs_so", "_law_both", "_law_sums", "_law_rows", "_law_stacks_so", "_law_key"]) (sc := defScope s_law_rules) (by decide +kernel)) (fun _ _ _ _ _ => (pg_name (i := 4) sc_law_rules.nd rfl (by first | exact .inl rfl | exact .inr rfl))) (fun _ _ _ _ _ => pts_nil) (fun _ _ _ _ _ => (pe_ok c_law_worth (hr.mono (by omega)) (by rfl) (pa_cons (pv 0) pa_nil)))) pa_nil)) pa_nil)))))
      (pss_cons (ps_set (i := 11) sc_law_rules.nd rfl (by first | exact .inl rfl | exact .inr rfl) pe_dnewT)
      (pss_cons (ps_for PassesOwn.never rfl (pi_range1 (by rfl) B.range (pa_cons (pe_op op_mul (pe_ok c_law_pick (hr.mono (by omega)) (by rfl) (pa_cons (pv 0) (pa_cons (pe_lst (pa_cons pe_int (pa_cons pe_int (pa_cons pe_int (pa_cons pe_int pa_nil))))) pa_nil))) (pe_callTy (call_int1' : CallR _ _ rInt1) (by rfl) B.int (by decide +kernel) (pa_cons (pe_cmpR (op_neD hr.units : OpR _ _ (rNeD K)) (pv 5) (pe_lst pa_nil) (nomark _)) pa_nil))) pa_nil)) (pg_name (i := 4) sc_law_rules.nd rfl (by first | exact .inl rfl | exact .inr rfl)) (pss_one (ps_dput (hu_of hr) (pv 11) (pe_tup (pa_cons (pe_ok c_law_pick (hr.mono (by omega)) (by rfl) (pa_cons (pv 0) (pa_cons (pv 5) pa_nil))) (pa_cons (pe_ok c_law_pick (hr.mono (by omega)) (by rfl) (pa_cons (pv 0) (pa_cons (pv 5) pa_nil))) pa_nil))) (pe_ok c_law_worth (hr.mono (by omega)) (by rfl) (pa_cons (pv 0) pa_nil)) rfl)))
      (pss_cons (ps_set (i := 12) sc_law_rules.nd rfl (by first | exact .inl rfl | exact .inr rfl) (pe_callTy (call_tupL' : CallR _ _ (rTupL K)) (by rfl) B.tuple (by decide +kernel) (pa_cons (pe_lc (own := [("_law_key", 13)]) (g := (gName 13)) (by rfl) sc_law_rules.nd (pi_list (pe_callB (cr_sortedDT rfl hr.units) (by rfl) B.sorted (by decide +kernel) (pa_cons (pv 11) pa_nil))) (blkOk_by (own := [("_law_key", 13)]) (N := ["_law_pen_here", "_law_first", "_law_many", "_law_letters_so", "_law_k", "_law_texts", "_law_one", "_law_two", "_law_pairs_so", "_law_both", "_law_sums", "_law_rows", "_law_stacks_so", "_law_key"]) (sc := defScope s_law_rules) (by decide +kernel)) (fun _ _ _ _ _ => (pg_name (i := 13) sc_law_rules.nd rfl (by first | exact .inl rfl | exact .inr rfl))) (fun _ _ _ _ _ => pts_nil) (fun _ _ _ _ _ => (pe_op (op_add4 : OpR _ _ (rAdd4 K)) (pv 13) (pe_tup (pa_cons (pe_dget (hu_of hr) (pv 11) (pv 13) (fun _ _ => rfl)) pa_nil))))) pa_nil)))
      (pss_one (ps_ret (pe_tup (pa_cons (pv 3) (pa_cons (pv 8) (pa_cons (pe_ok c_law_pick (hr.mono (by omega)) (by rfl) (pa_cons (pv 0) (pa_cons (pe_lst (pa_cons pe_int (pa_cons pe_int (pa_cons pe_int (pa_cons pe_int (pa_cons pe_int pa_nil)))))) pa_nil))) (pa_cons (pe_ok c_law_pick (hr.mono (by omega)) (by rfl) (pa_cons (pv 0) (pa_cons (pe_op (op_add4 : OpR _ _ (rAdd4 K)) (pv 10) (pe_slice (sl_2 : SlR _ (rSl2 K)) (pv 10) (po_some pe_int) po_none)) pa_nil))) (pa_cons (pv 12) pa_nil))))))))))))))))))), ?_⟩
  refine eAsg (n := n) (eDraw gInt (by decide) (by decide)) sS pn (by omega) fun x S1 H1 g1 pn1 hx => ?_
  obtain ⟨d0, rfl, d01, d02⟩ := hx
  refine eAsg (n := n + 1) (ePickL (ds := ([2, 2, 3, 4, 1, 6] : List Int).map .int) (eLst (gaCons gInt (gaCons gInt (gaCons gInt (gaCons gInt (gaCons gInt (gaCons gInt gaNil))))))) (by decide) (by decide)) g1.sh pn1 (by omega) fun x S2 H2 g2 pn2 hx => ?_
  obtain ⟨d, hd, hx⟩ := hx
  obtain ⟨m, hm, rfl⟩ := List.mem_map.mp hd
  cases hx
  have hmb : 1 ≤ m ∧ m ≤ 6 := by simp at hm; omega
  have hal := alph_len
  have hcode : ∀ x : Int, 0 ≤ (d0 + 3 * x) % 26 ∧ (d0 + 3 * x) % 26 < (alph.length : Int) := fun x => by
    rw [hal]
    exact ⟨Int.emod_nonneg _ (by decide), Int.emod_lt_of_pos _ (by decide)⟩
  obtain ⟨code, hc⟩ : ∃ code : Int → Nat, ∀ x, code x < 0x110000 ∧ atI alph.cps.toList ((d0 + 3 * x) % 26) = some (code x) := ⟨fun x => (ch_code alph_ok (hcode x).1 (hcode x).2).choose, fun x => by
    have := (ch_code alph_ok (hcode x).1 (hcode x).2).choose_spec
    exact ⟨this.1, this.2.1⟩⟩
  refine sAsg (gJoin (Pc := fun l => l.length = m.toNat ∧ ∀ c ∈ l, c < 0x110000) (gSorted (R := fun S' v => ∃ l : List Nat, (l.length = m.toNat ∧ ∀ c ∈ l, c < 0x110000) ∧ DD S' v (.list (l.map eSg))) (ds := ((irange 0 m).map code).map eSg) (GD.is (gLcR11 (fun x => eSg (code x)) (gaCons (gV (.int m)) gaNil) (sm_of (by omega)) (Nat.le_trans (show _ ≤ 64 by omega) (by decide)) fun x h1 h2 S3 e => turnN rfl gYes fun _ => ?_) (by rw [List.map_map]; rfl)) (srt_sg _) fun S' v ds' e hp _ hd' => ?_) fun l hl => by omega) g2.sh fun lv S3 H3 g3 hl => ?_
  · exact gIxS (z := alph) gStr (gMod (gAddI (gV (.int d0)) (gMul gInt (gV (.int x)) (.inl ⟨by decide, by decide⟩))) gInt (by decide)) (by decide +kernel) (hc x).2
  · obtain ⟨l', p', rfl⟩ := perm_map_inv hp
    refine ⟨l', ⟨by rw [p'.length_eq, List.length_map, irange_len]; congr 1; omega, fun c hc' => ?_⟩, hd'⟩
    obtain ⟨x, _, rfl⟩ := List.mem_map.mp (p'.mem_iff.mp hc')
    exact (hc x).1
  obtain ⟨L, ⟨hL1, hL2⟩, rfl⟩ := hl
  have pn3 := pn2.gr g3
  have G3 := (g1.trans g2).trans g3.up0
  refine sAsg (i := 5) (eLst gaNil) g3.sh fun tv S4 H4 g4 ht => ?_
  have hLl : (⟨L.toArray⟩ : Str).cps.toList = L := rfl
  refine fForS [] (fun i σ' S' H' => ∃ tv e6 ts, σ' = [some (.ref p), some (.int d0), some (.int m), some (.str ⟨L.toArray⟩), none, some tv, e6, none, none, none, none, none, none, none] ∧ DD S' tv (.list (ts.map .str)) ∧ (∀ t ∈ ts, T2 t) ∧ ts.length ≤ 6 * i) (gV (.str _)) g4.sh
    (fun S5 H5 g5 => ⟨_, _, [], rfl, ht.mono g5.ss, by simp, Nat.le_refl _⟩) (fun i c σ' S' H' N hx g hI hN => ?_) fun σ' S' H' g hI => ?_
  · obtain ⟨tv, e6, ts, rfl, hts, h2, h3⟩ := hI
    have hcm : c ∈ L := List.mem_of_getElem? hx
    have hiL : i < L.length := (List.getElem?_eq_some_iff.mp hx).1
    refine sAsg (gAddL (gV hts) (gLcS1 (fun c2 => .str ((⟨#[c]⟩ : Str) ++ ⟨#[c2]⟩)) (gV (.str ⟨L.toArray⟩)) (Nat.le_trans (show L.length ≤ 64 by omega) (by decide)) fun c2 hc2 S5 e => turnN rfl gYes fun _ => gAddS (gV (.str _)) (gV (.str _)) (by show 1 + 1 ≤ sizeLine; decide)) ?_) g.sh fun nv S5 H5 g5 hn => ?_
    · rw [List.length_map, List.length_map]
      exact Nat.le_trans (show ts.length + L.length ≤ 1000 by omega) (by decide)
    · refine hN _ S5 _ g5 ⟨_, _, ts ++ L.map fun c2 => (⟨#[c]⟩ : Str) ++ ⟨#[c2]⟩, rfl, ?_, fun t ht' => ?_, ?_⟩
      · rw [List.map_append, List.map_map]
        exact hn
      · rcases List.mem_append.mp ht' with h | h
        · exact h2 t h
        · obtain ⟨c2, hc2, rfl⟩ := List.mem_map.mp h
          exact T2_pair (hL2 c hcm) (hL2 c2 hc2)
      · rw [List.length_append, List.length_map]
        omega
  obtain ⟨tv', e6, ts, rfl, hts, ht2, ht3⟩ := hI
  have ht3 : ts.length ≤ 36 := by
    have : (⟨L.toArray⟩ : Str).cps.toList.length = L.length := rfl
    omega
  have pn5 := (pn3.gr g4).gr g
  have G5 := G3.trans (g4.trans g).up0
  refine eAsg (n := n + 1 + 1) (c := 1 * ts.length) (eSlL (enc := PyData.str) (k := 12) (Pl := fun l => (∀ t ∈ l, T2 t) ∧ l.length ≤ 36) ((eLcF (c := 1) ts .str (gV hts) (Nat.le_trans ht3 (by decide)) (fun v => rfl) (fun v => rfl) fun x hx v n' S6 H6 e sS6 pn6 hn6 Q' q' => ?_).weak fun S6 v _ h => ?_)) g.sh pn5 (by omega) fun tv6 S6 H6 g6 pn6 hx => ?_
  · refine (eDraw (cs := cs) (ns := ns) (p := p) (S := S6) (te := tC (.int 4)) gInt (by decide) (by decide) rfl) n' S6 H6 (Same.refl _) sS6 pn6 hn6 _ fun v S7 H7 g7 pn7 hv => ?_
    obtain ⟨dd, rfl, _, _⟩ := hv
    exact ⟨dd, 0, rfl, rfl, _, rfl, q' _ S7 H7 g7 pn7⟩
  · obtain ⟨m', h1, h2, h3⟩ := h
    exact ⟨m', ⟨fun t ht => ht2 t (h1 t ht), by omega⟩, h3⟩
  obtain ⟨ts0, ⟨ht4, ht5⟩, hx⟩ := hx
  have ht6 : ∀ t ∈ cutA ts0 none (some 12), T2 t := fun t h => ht4 t (cutA_sub t h)
  have ht7 : (cutA ts0 none (some 12)).length ≤ 36 := Nat.le_trans cutA_le ht5
  generalize cutA ts0 none (some 12) = tx at hx ht6 ht7
  have G6 := G5.trans g6
  refine eAsg (n := n + 1 + 1 + 1 * ts.length) (eTupFOf (eLc (c := 4) tx .str (fun x d => ∃ w, -99 ≤ w ∧ w ≤ 99 ∧ d = ePs (x, w)) (gV hx) (Nat.le_trans ht7 (by decide)) fun x hx' u S7 e hu => turnEN rfl gYes ?_)) g6.sh pn6 (by omega) fun pv S7 H7 g7 pn7 hp7 => ?_
  · refine (eTupE (Pd := fun ds => ∃ w, -99 ≤ w ∧ w ≤ 99 ∧ ds = [.str x, .int w]) (eaCons' (c1 := 0) (c2 := 4 + 0) (gV hu).e fun S3 y e3 hy => eaCons' eWorth fun S4 y2 e4 hy2 => eaNil.weak fun S5 vs e5 hvs => ?_) fun ds h => ?_).le (by omega) |>.weak fun S6 v _ h => ?_
    · subst hvs
      obtain ⟨w, rfl, w1, w2⟩ := hy2
      exact ⟨_, ⟨w, w1, w2, rfl⟩, .cons ((hy.mono e4).mono e5) (.cons (.int w) .nil)⟩
    · obtain ⟨w, _, _, rfl⟩ := h
      exact (by decide : 2 ≤ 64)
    · obtain ⟨ds, ⟨w, w1, w2, rfl⟩, h⟩ := h
      exact ⟨_, ⟨w, w1, w2, rfl⟩, h⟩
  obtain ⟨ds1, hpd, tp, xs1, rfl, htp, hd1⟩ := hp7
  obtain ⟨m1, m1a, m1b, rfl⟩ := paired_txt hpd
  have G7 := G6.trans g7
  have hx7 := hx.mono g7.ss
  generalize hn7 : n + 1 + 1 + 1 * ts.length + 4 * tx.length = n7 at pn7
  have hn7b : n7 ≤ n + 200 := by omega
  refine eAsg (n := n7) (c := 0 + (0 + (4 * (9 : Int).toNat + 0))) (eLstE (m := 3) (P := W9) (eaC (eD (eTup (gaCons (eSub gInt gInt) (gaCons gInt (gaCons gInt (gaCons gInt (gaCons gInt (gaCons gInt (gaCons gInt (gaCons gInt (gaCons gInt gaNil)))))))))) ⟨[0 - 3, 1, 0, 2, 0, 0, 3, 0, 0], rfl, by decide, rfl⟩)
    (eaC (eD (gRepT (eTup (gaCons gInt gaNil)) gInt (by simp) ⟨by decide, by decide⟩ (by simp)) ⟨List.replicate 9 0, rfl, by decide, rfl⟩) (eaC ((eTupOf (eLcR (c := 4) (fun _ d => IsW d) (gaCons gInt gaNil) ⟨by decide, by decide⟩ fun x h1 h2 S8 e => turnEN rfl gYes (Ge.weak eWorth fun S9 v _ h => ?_))).weak fun S9 v _ h => ?_) eaN))) (by decide)) g7.sh pn7 (by simp; omega) fun sv10 S8 H8 g8 pn8 hsums => ?_
  · obtain ⟨i, rfl, i1, i2⟩ := h
    exact ⟨_, ⟨i, rfl, i1, i2⟩, .int i⟩
  · obtain ⟨ds, hp, hd⟩ := h
    obtain ⟨ws, h1, h2, rfl⟩ := paired_ws hp
    exact ⟨_, ⟨ws, by rw [h1]; decide, h2, rfl⟩, hd⟩
  obtain ⟨sums, hs1, hs2, hs3⟩ := hsums
  have pn8 := pn8.le (show _ ≤ n7 + 36 by simp)
  refine sNewT fun o no => ?_
  have g9 := Gr.priv (o := .dT []) g8.sh no
  have hop : o ≠ p := pen_ne pn8 no
  have pn9 := pn8.gr g9
  have G9 := G7.trans (g8.trans g9.up0)
  have oH : H o = none := (G7.trans g8).free1 hop no
  have nS8 : S8 o = none := g8.sh.free no
  refine fForRE (n := n7 + 36) (c := 1 + 0) (R := fun _ v => ∃ m, v = .int m ∧ (0 < m → tx ≠ []) ∧ m ≤ 12) (eOp (ePickL (ds := ([0, 1, 4, 12] : List Int).map .int) (eLst (gaCons gInt (gaCons gInt (gaCons gInt (gaCons gInt gaNil))))) (by decide) (by decide)) fun S10 x e hx' => (Gv.weak (gIntB (gNeD (gV (hx7.mono ((g8.ss.trans g9.ss).trans e))) (eLst gaNil) ?_ (by decide +kernel) (eqv_list0 _))) fun S11 y e2 hy => ?_).e) g9.sh pn9 (by omega) fun mm S10 H10 g10 pn10 hR10 mm0 mm1 => ?_
  · exact sh_txts fun t ht => (ht6 t ht).2
  · cases hy
    obtain ⟨d, hd, hx'⟩ := hx'
    obtain ⟨i, hi, rfl⟩ := List.mem_map.mp hd
    cases hx'
    have hib : 0 ≤ i ∧ i ≤ 12 := by simp at hi; omega
    refine rvIC (.inl ⟨by omega, by omega⟩) fun S' e => ?_
    cases tx with
    | nil => exact ⟨i * 0, rfl, ⟨i * 0, rfl, fun h => by omega, by omega⟩, by omega, by omega⟩
    | cons a l => exact ⟨i * 1, rfl, ⟨i * 1, rfl, fun _ => by simp, by omega⟩, by omega, by omega⟩
  obtain ⟨mm', em, hne, mm12⟩ := hR10
  cases em
  have G10 := G9.trans g10
  refine ⟨[o, p], fun i σ' S' H' => ∃ e4 kvs, σ' = [some (.ref p), some (.int d0), some (.int m), some (.str ⟨L.toArray⟩), e4, some tv6, e6, none, some (.ref tp), none, some sv10, some (.ref o), none, none] ∧ S' o = none ∧ H' o = some (.dT kvs) ∧ KvOk kvs ∧ kvs.length ≤ i ∧ PenAt p cs ns (n7 + 37 + 6 * i) S' H',
    ⟨none, [], rfl, g10.hide nS8 upd_same, g10.hh o _ (by simpa using hop) upd_same, ⟨by simp, by simp⟩, Nat.le_refl _, pn10.le (by omega)⟩, fun i σ' S' H' N hi g hI hN => ?_, fun σ' S' H' g hI => ?_⟩
  · obtain ⟨e4, kvs, rfl, n', eo, hkv, hkl, pn'⟩ := hI
    have hne' := hne (by omega)
    have hx11 := hx7.mono (((g8.ss.trans g9.ss).trans g10.ss).trans g.ss)
    have tl1 : 1 ≤ (tx.map PyData.str).length := by
      rw [List.length_map]
      exact List.length_pos_iff.mpr hne'
    refine eWorth (i := 0) (S := S') (σ := [some (.ref p), some (.int d0), some (.int m), some (.str ⟨L.toArray⟩), some (.int (0 + (i : Int))), some tv6, e6, none, some (.ref tp), none, some sv10, some (.ref o), none, none]) rfl _ S' H' (Same.refl _) g.sh pn' (by omega) _ fun wv S2 H2 g2 pn2 hw => ?_
    obtain ⟨ww, rfl, w1, w2⟩ := hw
    refine ⟨.ref o, rfl, ?_⟩
    have n2 := g2.hide n' eo
    have e2 := g2.hh o _ (by simpa using hop) eo
    have pk : ∀ {S3 : Hp}, Same S2 S3 → Ge p cs ns 1 (tCall (spE 1 RpPick) [] E0 (tCons (tVar 0) (tCons (tVar 5) tNil))) [some (.ref p), some (.int d0), some (.int m), some (.str ⟨L.toArray⟩), some (.int (0 + (i : Int))), some tv6, e6, none, some (.ref tp), none, some sv10, some (.ref o), none, none] S3 fun S' v => ∃ t, T2 t ∧ v = .str t := fun e3 =>
      Ge.weak (ePickL (gV ((hx11.mono g2.ss).mono e3)) tl1 (by rw [List.length_map]; omega)) fun S4 v _ h => by
        obtain ⟨d, hd, hv⟩ := h
        obtain ⟨t, ht, rfl⟩ := List.mem_map.mp hd
        cases hv
        exact ⟨t, ht6 t ht, rfl⟩
    refine (eTupE (c := 1 + (1 + 0)) (Pd := fun ds => ∃ a b, T2 a ∧ T2 b ∧ ds = [.str a, .str b]) (eaCons' (pk (Same.refl _)) fun S3 y e3 hy => eaCons' (pk e3) fun S4 y2 e4' hy2 => eaNil.weak fun S5 vs e5 hvs => ?_) fun ds h => ?_) _ S2 H2 (Same.refl _) g2.sh pn2 (by omega) _ fun y S3 H3 g3 pn3' hy => ?_
    · subst hvs
      obtain ⟨a, ha, rfl⟩ := hy
      obtain ⟨b, hb, rfl⟩ := hy2
      exact ⟨_, ⟨a, b, ha, hb, rfl⟩, .cons (.str a) (.cons (.str b) .nil)⟩
    · obtain ⟨a, b, _, _, rfl⟩ := h
      exact (by decide : 2 ≤ 64)
    · obtain ⟨ds, ⟨a, b, ha, hb, rfl⟩, hy⟩ := hy
      obtain ⟨kb, xs, rfl, k1, k2⟩ := hy.tupE
      have hxs : xs = ([.inr a, .inr b] : List Key).map kV := DDs.keys (k := [.inr a, .inr b]) k2
      subst hxs
      have n3 := g3.hide n2 e2
      have e3 := g3.hh o _ (by simpa using hop) e2
      refine ⟨o, _, rfl, DPut.t e3 (g3.sh _ _ k1) (Nat.lt_of_le_of_lt (show kvs.length ≤ 1000 by omega) (by decide)), ?_⟩
      refine hN _ S3 _ (((g2.trans g3).up (by simp)).put (by simp) n3) ⟨_, _, rfl, n3, upd_same, hkv.put ha hb w1 w2, ?_, (pn3'.put hop).le (by omega)⟩
      have := length_putK kvs [.inr a, .inr b] (.int ww)
      omega
  obtain ⟨e4, kvs, rfl, n', eo, hkv, hkl, pn11⟩ := hI
  have G11 : Gr [p] S H S' H' := Gr.over (fr := [o]) (ex := [p]) G10 g (by simpa using oH)
  have G12 := G11.tell oH n' eo
  have pn12 : PenAt p cs ns (n7 + 37 + 6 * 12) (upd S' o (.dT kvs)) H' := by
    obtain ⟨h1, h2, k', rest, h3, h4⟩ := pn11.le (show _ ≤ n7 + 37 + 6 * 12 by omega)
    exact ⟨by rw [upd_ne hop.symm]; exact h1, same_upd' n' _ _ h2, k', rest, h3, h4⟩
  have hdt : IsDT kvs (upd S' o (.dT kvs)) (.ref o) := ⟨o, rfl, upd_same⟩
  have hTT : ∀ q ∈ kvs, IsTT q.1 := fun q hq => by
    obtain ⟨a, b, w, e, _⟩ := hkv.ok q hq
    exact ⟨a, b, e⟩
  have hE : Ge p cs ns 0 (tCB (rTupL K) (tCons (tLc (iList K (tCB rSortedDT (tCons (tVar 11) tNil))) (gName 13) tYes (tOp (rAdd4 K) (tVar 13) (tTup (tCons (tDGet (tVar 11) (tVar 13)) tNil))) [13]) tNil)) [some (.ref p), some (.int d0), some (.int m), some (.str ⟨L.toArray⟩), e4, some tv6, e6, none, some (.ref tp), none, some sv10, some (.ref o), none, none] (upd S' o (.dT kvs)) (fun S' v => ∃ ds, (∃ ks : List (List Key), ks.Perm (kvs.map (·.1)) ∧ ds = (ks.map (stOf kvs)).map eStk) ∧ DD S' v (.tuple ds)) := by
    have h11 : Gv (tVar 11) [some (.ref p), some (.int d0), some (.int m), some (.str ⟨L.toArray⟩), e4, some tv6, e6, none, some (.ref tp), none, some sv10, some (.ref o), none, none] (upd S' o (.dT kvs)) (IsDT kvs) := gvI (mDT kvs) hdt
    have h0 : Gv (tLc (iList K (tCB rSortedDT (tCons (tVar 11) tNil))) (gName 13) tYes (tOp (rAdd4 K) (tVar 13) (tTup (tCons (tDGet (tVar 11) (tVar 13)) tNil))) [13]) [some (.ref p), some (.int d0), some (.int m), some (.str ⟨L.toArray⟩), e4, some tv6, e6, none, some (.ref tp), none, some sv10, some (.ref o), none, none] (upd S' o (.dT kvs)) (fun S' v => ∃ ks : List (List Key), ks.Perm (kvs.map (·.1)) ∧ DD S' v (.list ((ks.filter fun _ => true).map fun k => eStk (stOf kvs k)))) := by
      refine gLcE (vs := [13]) (g := gName 13) (tt := tYes) (te := tOp (rAdd4 K) (tVar 13) (tTup (tCons (tDGet (tVar 11) (tVar 13)) tNil))) (fun k => .tuple (k.map kD)) (fun _ => true) (fun k => eStk (stOf kvs k)) (fun ks : List (List Key) => ks.Perm (kvs.map (·.1))) (gSortedDT h11 hTT) (fun l hl => ?_) fun l hl k hk u S13 e hu => turnN (by rfl) gYes fun _ => ?_
      · rw [hl.length_eq, List.length_map]
        exact Nat.le_trans (show kvs.length ≤ 1000 by omega) (by decide)
      · obtain ⟨a, b, rfl, _, _, hv, _, _⟩ := hkv.val (hl.mem_iff.mp hk)
        exact GD.is (gAddT (ds := [.str a, .str b]) (es := [.int (wOf kvs [.inr a, .inr b])]) (gV hu) (eTup (gaCons (gAtT (k := [.inr a, .inr b]) (gvI (mDT _) (mDT _ _ _ _ e hdt)) (gV hu) hv fun _ _ => .int _) gaNil)) (by show 2 + 1 ≤ sizeLine; decide)) rfl
    refine eTupOf (Pd := fun ds => ∃ ks : List (List Key), ks.Perm (kvs.map (·.1)) ∧ ds = (ks.map (stOf kvs)).map eStk) (Gv.e (Gv.weak h0 fun S13 v _ h => ?_))
    obtain ⟨ks, hp, hd⟩ := h
    rw [filter_tt] at hd
    exact ⟨_, ⟨ks, hp, rfl⟩, by rw [List.map_map]; exact hd⟩
  refine eAsg (n := n7 + 37 + 6 * 12) (c := 0) hE G12.sh pn12 (by omega) fun stv S13 H13 g13 pn13 hst => ?_
  obtain ⟨dst, ⟨ks, hkp, rfl⟩, hst⟩ := hst
  have G13 := G12.trans g13
  have s713 : Same S7 S13 := ((((g8.ss.trans g9.ss).trans g10.ss).trans g.ss).trans (same_upd' n')).trans g13.ss
  have hsum13 := hs3.mono (((((g9.ss).trans g10.ss).trans g.ss).trans (same_upd' n')).trans g13.ss)
  have cutS : ∀ d ∈ cutA sums (some 2) none, d ∈ sums := fun d hd => by
    unfold cutA at hd
    exact List.mem_of_mem_drop (List.mem_of_mem_take hd)
  have cutL : (cutA sums (some 2) none).length ≤ 3 := by
    unfold cutA
    rw [List.length_take, List.length_drop]
    omega
  have lm1 : m1.length = tx.length := by rw [← m1a, List.length_map]
  have lks : ks.length = kvs.length := by rw [hkp.length_eq, List.length_map]
  have m1T : ∀ x ∈ m1, T2 x.1 := fun x hx => ht6 x.1 (by rw [← m1a]; exact List.mem_map.mpr ⟨x, hx, rfl⟩)
  have stT : ∀ t ∈ ks.map (stOf kvs), T2 t.1 ∧ T2 t.2.1 ∧ -99 ≤ t.2.2 ∧ t.2.2 ≤ 99 := fun t ht => by
    obtain ⟨k, hk, rfl⟩ := List.mem_map.mp ht
    obtain ⟨a, b, rfl, ha, hb, _, w1, w2⟩ := hkv.val (hkp.mem_iff.mp hk)
    exact ⟨ha, hb, w1, w2⟩
  have stN : ((ks.map (stOf kvs)).map fun t => (t.1, t.2.1)).Nodup := by
    have hnd : ks.Nodup := hkp.nodup_iff.mpr hkv.nd
    rw [List.map_map, List.nodup_iff_pairwise_ne, List.pairwise_map]
    refine List.Pairwise.imp_of_mem (fun {x y} hx hy h e => h ?_) hnd
    obtain ⟨a, b, rfl, _⟩ := hkv.val (hkp.mem_iff.mp hx)
    obtain ⟨a', b', rfl, _⟩ := hkv.val (hkp.mem_iff.mp hy)
    have e1 := (Prod.mk.inj e).1
    have e2 := (Prod.mk.inj e).2
    have e1 : a = a' := e1
    have e2 : b = b' := e2
    rw [e1, e2]
  have hsum13 := hs3.mono (((((g9.ss).trans g10.ss).trans g.ss).trans (same_upd' n')).trans g13.ss)
  have sumI : ∀ d ∈ sums ++ cutA sums (some 2) none, W9 d := fun d hd => by
    rcases List.mem_append.mp hd with h | h
    · exact hs2 d h
    · exact hs2 d (cutS d h)
  have mono2 : Mono (fun S v => v = .ref tp ∧ ∃ xs, TupF S tp xs ∧ DDs S xs (m1.map ePs)) := fun _ _ _ e h => by
    obtain ⟨h1, xs, ⟨o, ho, h2⟩, h3⟩ := h
    exact ⟨h1, xs, ⟨o, ho, e _ _ h2⟩, h3.mono e⟩
  refine eRet (n := n7 + 37 + 6 * 12 + 0) (c := 0 + (0 + (1 + (1 + (0 + 0))))) (R := fun S' v => ∃ r, (RlOk r ∧ 1 ≤ r.letters.length) ∧ RulesAt S' v r) (eRulesTup (Pr := fun r => RlOk r ∧ 1 ≤ r.letters.length) (eaCons' (Gv.e (gV (.str ⟨L.toArray⟩))) fun S14 y1 e14 hy1 => eaCons' (Gv.e (gvI mono2 (mono2 S7 S14 (.ref tp) (s713.trans e14) ⟨rfl, xs1, htp, hd1⟩))) fun S15 y2 e15 hy2 =>
    eaCons' (ePickL (ds := ([0, 1, 0, 3, 2] : List Int).map .int) (eLst (gaCons gInt (gaCons gInt (gaCons gInt (gaCons gInt (gaCons gInt gaNil)))))) (by decide) (by decide)) fun S16 y3 e16 hy3 =>
    eaCons' (ePickL (ds := sums ++ cutA sums (some 2) none) (gAddL (gV (((hsum13.mono e14).mono e15).mono e16)) (gSlL (gV (((hsum13.mono e14).mono e15).mono e16)) (goPart gInt) goNo) (Nat.le_trans (show _ ≤ 64 by omega) (by decide))) (by rw [List.length_append]; omega) (by rw [List.length_append]; omega)) fun S17 y4 e17 hy4 => eaCons' (Gv.e (gV ((((hst.mono e14).mono e15).mono e16).mono e17))) fun S18 y5 e18 hy5 => eaNil.weak fun S19 vs e19 hvs => ?_)) G13.sh pn13 (by omega) fun v S20 H20 g20 pn20 hv => ?_
  · subst hvs
    cases hy1
    obtain ⟨rfl, xs', ⟨o', ho', ht'⟩, hd'⟩ := hy2
    obtain ⟨d, hd, hy3⟩ := hy3
    obtain ⟨sp, hsp, rfl⟩ := List.mem_map.mp hd
    cases hy3
    have hspb : 0 ≤ sp ∧ sp ≤ 3 := by simp at hsp; omega
    obtain ⟨d4, hd4, hy4⟩ := hy4
    obtain ⟨ws, ws1, ws2, rfl⟩ := sumI d4 hd4
    have s1519 := ((e16.trans e17).trans e18).trans e19
    obtain ⟨ps, rfl, hps⟩ := pairs_of (tp := tp) hd'
    refine ⟨⟨⟨L.toArray⟩, m1, sp, ws, ks.map (stOf kvs)⟩, _, _, _, rfl, PairsAt.mono s1519 ⟨tp, ps, rfl, ⟨o', ho', ht'⟩, hps⟩, hy4.mono (e18.trans e19), hy5.mono e19, ?_, by show 1 ≤ L.length; omega⟩
    exact ⟨by show L.length ≤ 30; omega, by show m1.length ≤ 100; omega, by show (ks.map (stOf kvs)).length ≤ 100; rw [List.length_map]; omega, ws1, hspb, ws2, m1b, fun x hx => (m1T x hx).1, fun t ht => (stT t ht).2.2, fun t ht => ⟨(stT t ht).1.1, (stT t ht).2.1.1⟩, strOk_arr hL2, fun x hx => (m1T x hx).2, fun t ht => ⟨(stT t ht).1.2, (stT t ht).2.1.2⟩, stN⟩
  · obtain ⟨r, ⟨h1, h2⟩, h3⟩ := hv
    exact q v S20 H20 (G12.trans (g13.trans g20)) (pn20.le (by omega)) ⟨r, h1, h2, h3⟩
end
end
end PF
-- part PfZ1
set_option Elab.async false
set_option linter.all false
set_option maxRecDepth 100000
set_option maxHeartbeats 4000000
namespace PF
open PySem
abbrev IsZs (h : Heap) (z TI TO : Addr) (f0 f1 : Value) : Prop :=
  h.get? z = some { cls := .type "zip", dict := none, data := .fields #[f0, f1, .bool true, .ref TI, .ref TO], slots := #[] }
section
variable {prog : Program} {w : World} {A : Around} {E : Value → Shared → Prop} {s : Shared} {z TI TO i1 i2 : Addr} {fp1 fp2 : List Addr} {n1 n2 i : Nat} {P1 P2 : Nat → Value → Prop} {St1 St2 : Nat → Heap → Prop} {a1 a2 f1 : Value}
theorem alive_rule {a : Addr} {Q : Option Obj → Shared → Prop} (h : Q (s.heap.get? a) s) : wpAny (model prog w) A (loadIfAlive a) Q E s := fun Γ p _ => by
  show Sem.wp _ Γ (.loadIfAlive a .pure) _ _ p s
  rw [Sem.wp_loadIfAlive]
  exact (Sem.wp_pure ..).mpr h
theorem orEnd_item {Q : Option Value → Shared → Prop} (D : Draws prog w A i1 fp1 n1 P1 St1) (hi : i < n1) (st : St1 i s.heap)
    (hQ : ∀ x h' tk, P1 i x → St1 (i + 1) h' → Heap.SameBut i1 s.heap h' → Q (some x) { s with heap := h', toks := tk }) : wpAny (model prog w) A (Builtin.SmallTypes.nextOrEnd (.ref i1)) Q E s := by
  unfold Builtin.SmallTypes.nextOrEnd
  exact wpAny_bind (wpAny_attempt (D.item i s _ _ hi st fun x h' tk p q r => wpAny_pure (hQ x h' tk p q r)))
theorem orEnd_done {Q : Option Value → Shared → Prop} (D : Draws prog w A i1 fp1 n1 P1 St1) (st : St1 n1 s.heap)
    (hQ : ∀ h', Heap.ExtBut i1 s.heap h' → Q none { s with heap := h' }) : wpAny (model prog w) A (Builtin.SmallTypes.nextOrEnd (.ref i1)) Q E s := by
  unfold Builtin.SmallTypes.nextOrEnd
  refine wpAny_bind (wpAny_attempt (D.done s _ _ st fun h' e k he => ?_))
  obtain ⟨o, ho, hc⟩ := he
  refine wpAny_bind (wpAny_isInstance (T := "StopIteration") (b := true) ⟨o, ho, hc⟩ isSubtype_stop ?_)
  exact wpAny_pure (hQ _ k)
theorem zs_free {Q : Value → Shared → Prop} (S : ZipSep2 z TI TO i1 i2 fp1 fp2) (D1 : Draws prog w A i1 fp1 n1 P1 St1) (D2 : Draws prog w A i2 fp2 n2 P2 St2)
    (hz : IsZs s.heap z TI TO .none f1) (hTI : IsTupOf2 s.heap TI (.ref i1) (.ref i2)) (hTO : IsTupOf2 s.heap TO a1 a2) (st1 : St1 i s.heap) (st2 : St2 i s.heap) (hlt1 : i < n1) (hlt2 : i < n2)
    (hQ : ∀ x1 x2 h' tk, P1 i x1 → P2 i x2 → IsZs h' z TI TO (rawInt s.heap.objs.size) (.bool false) → IsTupOf2 h' TO x1 x2 → St1 (i + 1) h' → St2 (i + 1) h' → IsTupOf2 h' s.heap.objs.size x1 x2 → h'.objs.size = s.heap.objs.size + 1 →
      (∀ c o, c ≠ z → c ≠ TO → c ≠ i1 → c ≠ i2 → s.heap.get? c = some o → h'.get? c = some o) → Q (.ref s.heap.objs.size) { s with heap := h', toks := tk }) :
    wpAny (model prog w) A (Builtin.«zip.__next__» ⟨[.ref z], []⟩) (fun fin s' => ∃ v, fin = .done (.ret v) ∧ Q v s') E s := by
  obtain ⟨hp, g, d, tk0, os⟩ := s
  show wpAny _ _ (field (.ref z) 2 >>= _) _ _ _
  refine wpAny_bind (wpAny_field hz rfl (x := .bool true) rfl ?_)
  show wpAny _ _ (field (.ref z) 3 >>= _) _ _ _
  refine wpAny_bind (wpAny_field hz rfl (x := .ref TI) rfl ?_)
  refine wpAny_bind (wpAny_seqItems hTI rfl ?_)
  show wpAny _ _ (Builtin.SmallTypes.ownedTupleIsFree (.ref z) >>= _) _ _ _
  refine wpAny_bind ?_
  unfold Builtin.SmallTypes.ownedTupleIsFree
  refine wpAny_bind (wpAny_field hz rfl (x := .none) rfl (wpAny_pure ?_))
  simp only [if_true]
  refine wpAny_bind (wpAny_rule ?_)
  refine wpAny_bind (wpAny_field hz rfl (x := .ref TO) rfl ?_)
  refine wpAny_bind (wpAny_setField_rec hz (by simp) fun g0 hz0 hs0 => ?_)
  replace hz0 : IsZs g0 z TI TO .ellipsis f1 := hz0
  replace hs0 : Heap.SameBut z hp g0 := hs0
  refine wpAny_bind ?_
  simp only [List.zipIdx_cons, List.zipIdx_nil, List.forIn_cons, List.forIn_nil]
  refine wpAny_bind (wpAny_bind (wpAny_onRaise ?_))
  show wpAny _ _ (Builtin.SmallTypes.nextOrEnd (.ref i1)) _ _ ⟨g0, g, d, tk0, os⟩
  refine orEnd_item D1 hlt1 (D1.over st1 hs0 S.zf1) fun x1 p1 tk1 hx1 sn1 hp1 => ?_
  replace hp1 : Heap.SameBut i1 g0 p1 := hp1
  have hU1 : IsTupOf2 p1 TO a1 a2 := hp1.extBut _ _ S.Ti1 (hs0.extBut _ _ S.TOz hTO)
  refine wpAny_bind (wpAny_seqItems (s := ⟨p1, g, d, tk1, os⟩) hU1 rfl ?_)
  refine wpAny_bind (updateSeq_IsTupOf2 (s := ⟨p1, g, d, tk1, os⟩) hU1 fun g1 hT1 hs1 => ?_)
  replace hT1 : IsTupOf2 g1 TO x1 a2 := hT1
  replace hs1 : Heap.SameBut TO p1 g1 := hs1
  refine wpAny_bind (wpAny_letGo (wpAny_pure ?_))
  refine wpAny_bind (wpAny_bind (wpAny_onRaise ?_))
  show wpAny _ _ (Builtin.SmallTypes.nextOrEnd (.ref i2)) _ _ ⟨g1, g, d, tk1, os⟩
  refine orEnd_item D2 hlt2 (D2.over (D2.over (D2.over st2 hs0 S.zf2) hp1 S.sep1_2) hs1 S.Tf2) fun x2 p2 tk2 hx2 sn2 hp2 => ?_
  replace hp2 : Heap.SameBut i2 g1 p2 := hp2
  have hU2 : IsTupOf2 p2 TO x1 a2 := hp2.extBut _ _ S.Ti2 hT1
  refine wpAny_bind (wpAny_seqItems (s := ⟨p2, g, d, tk2, os⟩) hU2 rfl ?_)
  refine wpAny_bind (updateSeq_IsTupOf2 (s := ⟨p2, g, d, tk2, os⟩) hU2 fun g2 hT2 hs2 => ?_)
  replace hT2 : IsTupOf2 g2 TO x1 x2 := hT2
  replace hs2 : Heap.SameBut TO p2 g2 := hs2
  refine wpAny_bind (wpAny_letGo (wpAny_pure (wpAny_pure ?_)))
  refine wpAny_bind (wpAny_seqItems (s := ⟨g2, g, d, tk2, os⟩) hT2 rfl ?_)
  refine wpAny_bind (wpAny_newTuple ?_)
  have hsz : g2.objs.size = hp.objs.size := by rw [hs2.1, hp2.1, hs1.1, hp1.1, hs0.1]
  have hzz : IsZs g2 z TI TO .ellipsis f1 := (hs2.extBut _ _ S.TOz.symm (hp2.extBut _ _ S.zi2 (hs1.extBut _ _ S.TOz.symm (hp1.extBut _ _ S.zi1 hz0))))
  have hkk : ∀ c o, c ≠ z → c ≠ TO → c ≠ i1 → c ≠ i2 → hp.get? c = some o → g2.get? c = some o := fun c o cz cT c1 c2 e =>
    (hs2.extBut _ _ cT (hp2.extBut _ _ c2 (hs1.extBut _ _ cT (hp1.extBut _ _ c1 (hs0.extBut _ _ cz e)))))
  have hj1 : St1 (i + 1) g2 := (D1.over (D1.over (D1.over sn1 hs1 S.Tf1) hp2 S.sep2_1) hs2 S.Tf1)
  have hj2 : St2 (i + 1) g2 := (D2.over sn2 hs2 S.Tf2)
  have hzlt : z < g2.objs.size := Heap.lt_size hzz
  show wpAny _ _ (Builtin.SmallTypes.ownedTupleHandOut (.ref z) (.ref g2.objs.size) >>= _) _ _ ⟨g2.push { cls := .type "tuple", data := .seq #[x1, x2] }, g, d, tk2, os⟩
  refine wpAny_bind ?_
  unfold Builtin.SmallTypes.ownedTupleHandOut
  have hz6 : IsZs (g2.push { cls := .type "tuple", data := .seq #[x1, x2] }) z TI TO .ellipsis f1 := Heap.get?_push_of_some _ hzz
  refine wpAny_bind (wpAny_setField_rec hz6 (by simp) fun h7 hz7 hs7 => ?_)
  replace hz7 : IsZs h7 z TI TO (rawInt g2.objs.size) f1 := hz7
  refine wpAny_setField_rec hz7 (by simp) fun h8 hz8 hs8 => ?_
  replace hz8 : IsZs h8 z TI TO (rawInt g2.objs.size) (.bool false) := hz8
  replace hs7 : Heap.SameBut z (g2.push { cls := .type "tuple", data := .seq #[x1, x2] }) h7 := hs7
  replace hs8 : Heap.SameBut z h7 h8 := hs8
  have up : ∀ c o, c ≠ z → g2.get? c = some o → h8.get? c = some o := fun c o c1 e => hs8.extBut _ _ c1 (hs7.extBut _ _ c1 (Heap.get?_push_of_some _ e))
  have hT8 : IsTupOf2 h8 g2.objs.size x1 x2 := hs8.extBut _ _ (Nat.ne_of_gt hzlt) (hs7.extBut _ _ (Nat.ne_of_gt hzlt) (Heap.get?_push_size _ rfl))
  have hs : h8.objs.size = g2.objs.size + 1 := by rw [hs8.1, hs7.1, Heap.size_push]
  rw [hsz] at hz8 hT8 hs
  refine wpAny_pure ⟨_, rfl, ?_⟩
  show Q (.ref g2.objs.size) ⟨h8, g, d, tk2, os⟩
  rw [hsz]
  exact hQ x1 x2 h8 tk2 hx1 hx2 hz8 (up _ _ S.TOz hT2) (D1.frame _ _ _ hj1 fun b hb o e => up b o (fun q => S.zf1 (q ▸ hb)) e) (D2.frame _ _ _ hj2 fun b hb o e => up b o (fun q => S.zf2 (q ▸ hb)) e) hT8 hs fun c o cz cT c1 c2 e => up c o cz (hkk c o cz cT c1 c2 e)
theorem owned_busy {Q : Bool → Shared → Prop} {T : Addr} (hz : IsZs s.heap z TI TO (rawInt T) f1) (hlive : ∃ o, s.heap.get? T = some o)
    (h : ∀ h' f, IsZs h' z TI TO (rawInt T) f → Heap.SameBut z s.heap h' → Q false { s with heap := h' }) : wpAny (model prog w) A (Builtin.SmallTypes.ownedTupleIsFree (.ref z)) Q E s := by
  obtain ⟨oT, hoT⟩ := hlive
  unfold Builtin.SmallTypes.ownedTupleIsFree
  refine wpAny_bind (wpAny_field hz rfl (x := rawInt T) rfl ?_)
  show wpAny _ _ (loadIfAlive (Int.toNat (T : Int)) >>= _) _ _ _
  refine wpAny_bind (alive_rule ?_)
  rw [Int.toNat_natCast, hoT]
  show wpAny _ _ (field (.ref z) 1 >>= _) _ _ _
  refine wpAny_bind (wpAny_field hz rfl (x := f1) rfl ?_)
  by_cases hf : (f1 != Value.bool true) = true
  · rw [if_pos hf]
    refine wpAny_bind (wpAny_setField_rec hz (by simp) fun h' hz' hs' => wpAny_pure (h h' _ hz' hs'))
  · rw [if_neg hf]
    exact wpAny_pure (h s.heap f1 hz (Heap.SameBut.refl _ _))
theorem zs_busy {Q : Value → Shared → Prop} {T : Addr} (S : ZipSep2 z TI TO i1 i2 fp1 fp2) (D1 : Draws prog w A i1 fp1 n1 P1 St1) (D2 : Draws prog w A i2 fp2 n2 P2 St2)
    (hz : IsZs s.heap z TI TO (rawInt T) f1) (hlive : ∃ o, s.heap.get? T = some o) (hTI : IsTupOf2 s.heap TI (.ref i1) (.ref i2)) (st1 : St1 i s.heap) (st2 : St2 i s.heap) (hlt1 : i < n1) (hlt2 : i < n2)
    (hQ : ∀ x1 x2 h' tk f, P1 i x1 → P2 i x2 → IsZs h' z TI TO (rawInt T) f → St1 (i + 1) h' → St2 (i + 1) h' → IsTupOf2 h' s.heap.objs.size x1 x2 → h'.objs.size = s.heap.objs.size + 1 →
      (∀ c o, c ≠ z → c ≠ i1 → c ≠ i2 → s.heap.get? c = some o → h'.get? c = some o) → Q (.ref s.heap.objs.size) { s with heap := h', toks := tk }) :
    wpAny (model prog w) A (Builtin.«zip.__next__» ⟨[.ref z], []⟩) (fun fin s' => ∃ v, fin = .done (.ret v) ∧ Q v s') E s := by
  obtain ⟨hp, g, d, tk0, os⟩ := s
  show wpAny _ _ (field (.ref z) 2 >>= _) _ _ _
  refine wpAny_bind (wpAny_field hz rfl (x := .bool true) rfl ?_)
  show wpAny _ _ (field (.ref z) 3 >>= _) _ _ _
  refine wpAny_bind (wpAny_field hz rfl (x := .ref TI) rfl ?_)
  refine wpAny_bind (wpAny_seqItems hTI rfl ?_)
  show wpAny _ _ (Builtin.SmallTypes.ownedTupleIsFree (.ref z) >>= _) _ _ _
  refine wpAny_bind (owned_busy (s := ⟨hp, g, d, tk0, os⟩) hz hlive fun g0 f hz0 hs0 => ?_)
  replace hs0 : Heap.SameBut z hp g0 := hs0
  simp only [Bool.false_eq_true, if_false]
  simp only [← Array.forIn_toList, List.forIn_cons, List.forIn_nil]
  refine wpAny_bind ?_
  refine wpAny_bind (wpAny_bind (wpAny_holding ?_))
  show wpAny _ _ (Builtin.SmallTypes.nextOrEnd (.ref i1)) _ _ ⟨g0, g, d, tk0, os⟩
  refine orEnd_item D1 hlt1 (D1.over st1 hs0 S.zf1) fun x1 p1 tk1 hx1 sn1 hp1 => wpAny_pure ?_
  replace hp1 : Heap.SameBut i1 g0 p1 := hp1
  refine wpAny_bind (wpAny_bind (wpAny_holding ?_))
  show wpAny _ _ (Builtin.SmallTypes.nextOrEnd (.ref i2)) _ _ ⟨p1, g, d, tk1, os⟩
  refine orEnd_item D2 hlt2 (D2.over (D2.over st2 hs0 S.zf2) hp1 S.sep1_2) fun x2 p2 tk2 hx2 sn2 hp2 => wpAny_pure (wpAny_pure ?_)
  replace hp2 : Heap.SameBut i2 p1 p2 := hp2
  have hsz : p2.objs.size = hp.objs.size := by rw [hp2.1, hp1.1, hs0.1]
  have kk : ∀ c o, c ≠ z → c ≠ i1 → c ≠ i2 → hp.get? c = some o → p2.get? c = some o := fun c o cz c1 c2 e => hp2.extBut _ _ c2 (hp1.extBut _ _ c1 (hs0.extBut _ _ cz e))
  have hzz : IsZs p2 z TI TO (rawInt T) f := hp2.extBut _ _ S.zi2 (hp1.extBut _ _ S.zi1 hz0)
  refine wpAny_bind (wpAny_newTuple ?_ (by show 2 ≤ sizeLine; decide))
  refine wpAny_pure ⟨_, rfl, ?_⟩
  show Q (.ref p2.objs.size) ⟨p2.push { cls := .type "tuple", data := .seq #[x1, x2] }, g, d, tk2, os⟩
  rw [hsz]
  refine hQ x1 x2 _ tk2 f hx1 hx2 (Heap.get?_push_of_some _ hzz) (D1.frame _ _ _ (D1.over sn1 hp2 S.sep2_1) fun b hb o e => Heap.get?_push_of_some _ e) (D2.frame _ _ _ sn2 fun b hb o e => Heap.get?_push_of_some _ e) ?_ (by rw [Heap.size_push, hsz]) fun c o cz c1 c2 e => Heap.get?_push_of_some _ (kk c o cz c1 c2 e)
  have := Heap.get?_push_size p2 (o := { cls := .type "tuple", data := .seq #[x1, x2] }) rfl
  rw [hsz] at this
  exact this
/-- both have ended -/
theorem zs_end {Q : Fin → Shared → Prop} {f0 : Value} (hh : A.handled = none) (S : ZipSep2 z TI TO i1 i2 fp1 fp2) (D1 : Draws prog w A i1 fp1 n1 P1 St1) (D2 : Draws prog w A i2 fp2 n2 P2 St2)
    (hz : IsZs s.heap z TI TO f0 f1) (hf : f0 = .none ∨ ∃ (T : Addr) (o : Obj), f0 = rawInt T ∧ s.heap.get? T = some o) (hTI : IsTupOf2 s.heap TI (.ref i1) (.ref i2)) (st1 : St1 n1 s.heap) (st2 : St2 n2 s.heap)
    (hE : ∀ h' e, (∀ c o, c ≠ z → c ≠ i1 → c ≠ i2 → s.heap.get? c = some o → h'.get? c = some o) → (∃ o, h'.get? e = some o ∧ o.cls = .type "StopIteration") → E (.ref e) { s with heap := h' }) :
    wpAny (model prog w) A (Builtin.«zip.__next__» ⟨[.ref z], []⟩) Q E s := by
  obtain ⟨hp, g, d, tk0, os⟩ := s
  show wpAny _ _ (field (.ref z) 2 >>= _) _ _ _
  refine wpAny_bind (wpAny_field hz rfl (x := .bool true) rfl ?_)
  show wpAny _ _ (field (.ref z) 3 >>= _) _ _ _
  refine wpAny_bind (wpAny_field hz rfl (x := .ref TI) rfl ?_)
  refine wpAny_bind (wpAny_seqItems hTI rfl ?_)
  show wpAny _ _ (Builtin.SmallTypes.ownedTupleIsFree (.ref z) >>= _) _ _ _
  have stop : ∀ (h : Heap) (Q : PySem.Fin → Shared → Prop), (∀ c o, c ≠ z → c ≠ i1 → c ≠ i2 → hp.get? c = some o → h.get? c = some o) → wpAny (model prog w) A (Builtin.SmallTypes.stopIteration : Sem Fin) Q E ⟨h, g, d, tk0, os⟩ := fun h Q k => by
    unfold Builtin.SmallTypes.stopIteration
    show wpAny _ _ (newExc (.type "StopIteration") [] >>= _) _ _ _
    refine wpAny_bind ?_
    simp only [newExc, newTuple]
    refine wpAny_bind (wpAny_newObj_type ?_ (by size_fits))
    refine wpAny_bind (m := firstArgMember _ _) (wpAny_of_eq (a := Value.none) (by first | rfl | (simp only [firstArgMember]; rfl)) ?_)
    refine wpAny_newObj_type ?_ (by size_fits)
    simp only [raiseNew]
    refine wpAny_bind (wpAny_handled ?_)
    rw [hh]
    refine wpAny_bind (wpAny_pure (wpAny_throw ?_))
    exact hE _ _ (fun c o a b c' e => Heap.get?_push_of_some _ (Heap.get?_push_of_some _ (k c o a b c' e))) ⟨_, Heap.get?_push_size _ rfl, rfl⟩
  rcases hf with rfl | ⟨T, o, rfl, hT⟩
  · refine wpAny_bind ?_
    unfold Builtin.SmallTypes.ownedTupleIsFree
    refine wpAny_bind (wpAny_field hz rfl (x := .none) rfl (wpAny_pure ?_))
    simp only [if_true]
    refine wpAny_bind (wpAny_rule ?_)
    refine wpAny_bind (wpAny_field hz rfl (x := .ref TO) rfl ?_)
    refine wpAny_bind (wpAny_setField_rec hz (by simp) fun g0 hz0 hs0 => ?_)
    replace hz0 : IsZs g0 z TI TO .ellipsis f1 := hz0
    replace hs0 : Heap.SameBut z hp g0 := hs0
    refine wpAny_bind ?_
    simp only [List.zipIdx_cons, List.zipIdx_nil, List.forIn_cons, List.forIn_nil]
    refine wpAny_bind (wpAny_bind (wpAny_onRaise ?_))
    show wpAny _ _ (Builtin.SmallTypes.nextOrEnd (.ref i1)) _ _ ⟨g0, g, d, tk0, os⟩
    refine orEnd_done D1 (D1.over st1 hs0 S.zf1) fun p1 hp1 => ?_
    replace hp1 : Heap.ExtBut i1 g0 p1 := hp1
    have hzq : IsZs p1 z TI TO .ellipsis f1 := hp1 _ _ S.zi1 hz0
    refine wpAny_bind (wpAny_setField_rec (s := ⟨p1, g, d, tk0, os⟩) hzq (by simp) fun p2 _ hp2 => ?_)
    replace hp2 : Heap.SameBut z p1 p2 := hp2
    have s2 : St2 n2 p2 := D2.frame _ _ _ st2 fun b hb o e => hp2.extBut _ _ (fun q => S.zf2 (q ▸ hb)) (hp1 _ _ (fun q => S.sep1_2 (q ▸ hb)) (hs0.extBut _ _ (fun q => S.zf2 (q ▸ hb)) e))
    have kk : ∀ c o, c ≠ z → c ≠ i1 → hp.get? c = some o → p2.get? c = some o := fun c o a b e => hp2.extBut _ _ a (hp1 _ _ b (hs0.extBut _ _ a e))
    refine wpAny_bind ?_
    refine wpAny_bind ?_
    simp only [List.drop_succ_cons, List.drop_zero, List.zipIdx_cons, List.zipIdx_nil, List.forIn_cons, List.forIn_nil]
    refine wpAny_bind (wpAny_bind (orEnd_done (s := ⟨p2, g, d, tk0, os⟩) D2 s2 fun p3 hp3 => ?_))
    rw [if_neg (by simp)]
    refine wpAny_pure (wpAny_pure (wpAny_bind (wpAny_rule (stop p3 _ fun c o a b c' e => ?_))))
    exact hp3 _ _ c' (kk _ _ a b e)
  · refine wpAny_bind (owned_busy (s := ⟨hp, g, d, tk0, os⟩) hz ⟨o, hT⟩ fun g0 f hz0 hs0 => ?_)
    replace hs0 : Heap.SameBut z hp g0 := hs0
    simp only [Bool.false_eq_true, if_false]
    simp only [← Array.forIn_toList, List.forIn_cons, List.forIn_nil]
    refine wpAny_bind ?_
    refine wpAny_bind (wpAny_bind (wpAny_holding ?_))
    show wpAny _ _ (Builtin.SmallTypes.nextOrEnd (.ref i1)) _ _ ⟨g0, g, d, tk0, os⟩
    refine orEnd_done D1 (D1.over st1 hs0 S.zf1) fun p1 hp1 => ?_
    replace hp1 : Heap.ExtBut i1 g0 p1 := hp1
    have s2 : St2 n2 p1 := D2.frame _ _ _ st2 fun b hb o e => hp1 _ _ (fun q => S.sep1_2 (q ▸ hb)) (hs0.extBut _ _ (fun q => S.zf2 (q ▸ hb)) e)
    have kk : ∀ c o, c ≠ z → c ≠ i1 → hp.get? c = some o → p1.get? c = some o := fun c o a b e => hp1 _ _ b (hs0.extBut _ _ a e)
    refine wpAny_bind ?_
    refine wpAny_bind ?_
    simp only [List.drop_succ_cons, List.drop_zero, List.zipIdx_cons, List.zipIdx_nil, List.forIn_cons, List.forIn_nil]
    refine wpAny_bind (wpAny_bind (orEnd_done (s := ⟨p1, g, d, tk0, os⟩) D2 s2 fun p3 hp3 => ?_))
    rw [if_neg (by simp)]
    refine wpAny_pure (wpAny_pure (wpAny_bind (wpAny_rule (stop p3 _ fun c o a b c' e => ?_))))
    exact hp3 _ _ c' (kk _ _ a b e)
theorem next_zs_free {Q : Option Value → Shared → Prop} (S : ZipSep2 z TI TO i1 i2 fp1 fp2) (D1 : Draws prog w A.in1 i1 fp1 n1 P1 St1) (D2 : Draws prog w A.in1 i2 fp2 n2 P2 St2)
    (hz : IsZs s.heap z TI TO .none f1) (hTI : IsTupOf2 s.heap TI (.ref i1) (.ref i2)) (hTO : IsTupOf2 s.heap TO a1 a2) (st1 : St1 i s.heap) (st2 : St2 i s.heap) (hlt1 : i < n1) (hlt2 : i < n2)
    (hQ : ∀ x1 x2 h' tk, P1 i x1 → P2 i x2 → IsZs h' z TI TO (rawInt s.heap.objs.size) (.bool false) → IsTupOf2 h' TO x1 x2 → St1 (i + 1) h' → St2 (i + 1) h' → IsTupOf2 h' s.heap.objs.size x1 x2 → h'.objs.size = s.heap.objs.size + 1 →
      (∀ c o, c ≠ z → c ≠ TO → c ≠ i1 → c ≠ i2 → s.heap.get? c = some o → h'.get? c = some o) → Q (some (.ref s.heap.objs.size)) { s with heap := h', toks := tk }) :
    wpAny (model prog w) A (pyNext (.ref z)) Q E s := by
  have hT : s.TypeIs (.ref z) "zip" := ⟨_, hz, rfl⟩
  unfold pyNext
  exact wpAny_bind (wpAny_attempt (wpAny_callSpecial?_slot (name := Str.ofString "__next__") hT F.slot_zip_next
    (wpAny_call_entry F.slot_zip_next hT F.entry_zip_next
      (zs_free S D1 D2 hz hTI hTO st1 st2 hlt1 hlt2 fun x1 x2 h' tk y1 y2 b1 b2 d1 d2 b5 b6 b7 => wpAny_pure (hQ x1 x2 h' tk y1 y2 b1 b2 d1 d2 b5 b6 b7)) (F.args_zip_next_1 _))))
theorem next_zs_busy {Q : Option Value → Shared → Prop} {T : Addr} (S : ZipSep2 z TI TO i1 i2 fp1 fp2) (D1 : Draws prog w A.in1 i1 fp1 n1 P1 St1) (D2 : Draws prog w A.in1 i2 fp2 n2 P2 St2)
    (hz : IsZs s.heap z TI TO (rawInt T) f1) (hlive : ∃ o, s.heap.get? T = some o) (hTI : IsTupOf2 s.heap TI (.ref i1) (.ref i2)) (st1 : St1 i s.heap) (st2 : St2 i s.heap) (hlt1 : i < n1) (hlt2 : i < n2)
    (hQ : ∀ x1 x2 h' tk f, P1 i x1 → P2 i x2 → IsZs h' z TI TO (rawInt T) f → St1 (i + 1) h' → St2 (i + 1) h' → IsTupOf2 h' s.heap.objs.size x1 x2 → h'.objs.size = s.heap.objs.size + 1 →
      (∀ c o, c ≠ z → c ≠ i1 → c ≠ i2 → s.heap.get? c = some o → h'.get? c = some o) → Q (some (.ref s.heap.objs.size)) { s with heap := h', toks := tk }) :
    wpAny (model prog w) A (pyNext (.ref z)) Q E s := by
  have hT : s.TypeIs (.ref z) "zip" := ⟨_, hz, rfl⟩
  unfold pyNext
  exact wpAny_bind (wpAny_attempt (wpAny_callSpecial?_slot (name := Str.ofString "__next__") hT F.slot_zip_next
    (wpAny_call_entry F.slot_zip_next hT F.entry_zip_next
      (zs_busy S D1 D2 hz hlive hTI st1 st2 hlt1 hlt2 fun x1 x2 h' tk f y1 y2 b1 d1 d2 b5 b6 b7 => wpAny_pure (hQ x1 x2 h' tk f y1 y2 b1 d1 d2 b5 b6 b7)) (F.args_zip_next_1 _))))
theorem next_zs_end {Q : Option Value → Shared → Prop} {f0 : Value} (hh : A.handled = none) (S : ZipSep2 z TI TO i1 i2 fp1 fp2) (D1 : Draws prog w A.in1 i1 fp1 n1 P1 St1) (D2 : Draws prog w A.in1 i2 fp2 n2 P2 St2)
    (hz : IsZs s.heap z TI TO f0 f1) (hf : f0 = .none ∨ ∃ (T : Addr) (o : Obj), f0 = rawInt T ∧ s.heap.get? T = some o) (hTI : IsTupOf2 s.heap TI (.ref i1) (.ref i2)) (st1 : St1 n1 s.heap) (st2 : St2 n2 s.heap)
    (hQ : ∀ h', (∀ c o, c ≠ z → c ≠ i1 → c ≠ i2 → s.heap.get? c = some o → h'.get? c = some o) → Q none { s with heap := h' }) : wpAny (model prog w) A (pyNext (.ref z)) Q E s := by
  have hT : s.TypeIs (.ref z) "zip" := ⟨_, hz, rfl⟩
  unfold pyNext
  refine wpAny_bind (wpAny_attempt (wpAny_callSpecial?_slot (name := Str.ofString "__next__") hT F.slot_zip_next
    (wpAny_call_entry F.slot_zip_next hT F.entry_zip_next (zs_end hh S D1 D2 hz hf hTI st1 st2 fun h' e hk he => ?_) (F.args_zip_next_1 _))))
  obtain ⟨o, ho, hc⟩ := he
  refine wpAny_bind (wpAny_isInstance (T := "StopIteration") (b := true) ⟨o, ho, hc⟩ isSubtype_stop ?_)
  exact wpAny_pure (hQ _ hk)
theorem iter_zs {f0 : Value} {Q : Value → Shared → Prop} (hz : IsZs s.heap z TI TO f0 f1) (h : Q (.ref z) s) : wpAny (model prog w) A (pyIter (.ref z)) Q E s := by
  have hT : s.TypeIs (.ref z) "zip" := ⟨_, hz, rfl⟩
  refine wpAny_pyIter_slot hT F.slot_zip_iter (wpAny_call_entry F.slot_zip_iter hT F.entry_zip_iter ?_ (F.args_zip_iter_1 _))
  show wpAny _ _ (ret (.ref z)) _ _ s
  exact wpAny_pure ⟨_, rfl, "zip", _, hT, F.slot_zip_next.lookup, h⟩
theorem letgo_zs {elts : List Expr} {x1} {pos : Pos} {T : Addr} {Q : Unit → Shared → Prop} (hz : IsZs s.heap z TI TO (rawInt T) f1)
    (hQ : ∀ h', IsZs h' z TI TO .none f1 → Heap.SameBut z s.heap h' → Q () { s with heap := h' }) :
    wpAny (model prog w) A (letOwnedTupleGo (.Tuple elts x1 pos) (.ref z) (.ref T)) Q E s := by
  unfold letOwnedTupleGo
  refine wpAny_bind (wpAny_load hz ?_)
  show wpAny _ _ (if (["enumerate", "zip", "dict_itemiterator", "dict_reverseitemiterator", "odict_iterator", "itertools.zip_longest", "itertools.pairwise"].contains "zip" &&
      (#[rawInt T, f1, .bool true, .ref TI, .ref TO] : Array Value)[0]? == some (rawInt T)) = true then _ else _) Q E s
  rw [if_pos (by simp)]
  refine wpAny_bind (wpAny_rule ?_)
  show wpAny _ _ (setField (.ref z) 0 .none) Q E s
  exact wpAny_setField_rec hz (by simp) fun h' hz' hs' => hQ h' hz' hs'
end
end PF
-- part PfZ2
set_option Elab.async false
set_option linter.all false
set_option maxRecDepth 100000
set_option maxHeartbeats 4000000
namespace PF
open PySem
theorem drawsT {prog : Program} {w : World} {A : Around} (hh : A.handled = none) (it l : Addr) (hne : l ≠ it) (items : Array Value) :
    Draws prog w A it [it, l] items.size (fun i v => items[i]? = some v) (fun i h => h.IsTupleIter it l i ∧ h.IsTuple l items) where
  live := fun _ _ st => let ⟨o, ho, _⟩ := st.1; ⟨o, ho⟩
  frame := fun _ _ _ st hk => ⟨st.1.at fun o e => hk it (by simp) o e, let ⟨o, ho, r⟩ := st.2; ⟨o, hk l (by simp) o ho, r⟩⟩
  item := fun i s Q E hi st hQ => by
    refine RZ.nextOf_tuple_item st.1 st.2 (x := items[i]) (by simp [hi]) fun h' hit' hs' => ?_
    exact hQ _ h' s.toks (by simp [hi]) ⟨hit', st.2.extBut hs'.extBut hne⟩ hs'
  done := fun s Q E st hE => RZ.nextOf_tuple_end hh st.1 st.2 (by simp) hE
theorem sep2 (I l1 l2 : Nat) (h1 : l1 < I) (h2 : l2 < I) : ZipSep2 (I + 4) (I + 2) (I + 3) I (I + 1) [I, l1] [I + 1, l2] := by
  constructor <;> first | (refine PySem.W.neN ?_; omega) | (simp; done) | (simp; refine PySem.W.neN ?_; omega)
namespace ZF
theorem typeCall (a b c : Value) : checkTypeCall "zip" ⟨[a, b], [(Str.ofString "strict", c)]⟩ = pure () := by kernel_rfl
theorem newCall (a b c : Value) : checkBuiltinCall "zip.__new__" ⟨[.type "zip", a, b], [(Str.ofString "strict", c)]⟩ = pure () := by kernel_rfl
theorem args (obj a b c : Value) : argsOk "object.__init__" ⟨[obj, a, b], [(Str.ofString "strict", c)]⟩ := by unfold argsOk; kernel_rfl
end ZF
section
abbrev zH1 (T : String) (h : Heap) (l1 : Addr) : Heap := h.push { cls := .type T, data := .fields #[.ref l1, .int 0 0] }
abbrev zH2 (T : String) (h : Heap) (l1 l2 : Addr) : Heap := (zH1 T h l1).push { cls := .type T, data := .fields #[.ref l2, .int 0 0] }
abbrev zH3 (T : String) (h : Heap) (l1 l2 : Addr) : Heap := (zH2 T h l1 l2).push { cls := .type "tuple", data := .seq #[.ref h.objs.size, .ref (zH1 T h l1).objs.size] }
abbrev zH4 (T : String) (h : Heap) (l1 l2 : Addr) : Heap := (zH3 T h l1 l2).push { cls := .type "tuple", data := .seq #[.none, .none] }
abbrev zH5 (T : String) (h : Heap) (l1 l2 : Addr) : Heap := (zH4 T h l1 l2).push { cls := .type "zip", data := .fields #[.none, .bool false, .bool true, .ref (zH2 T h l1 l2).objs.size, .ref (zH3 T h l1 l2).objs.size] }
theorem meets_T (l1 l2 : Addr) (xs ys : Array Value) :
    Meets (Builtin.«zip.__new__» ⟨[.type "zip", .ref l1, .ref l2], [(Str.ofString "strict", .bool true)]⟩) (fun _ R s => s.heap.IsTuple l1 xs ∧ s.heap.IsTuple l2 ys ∧
      R (.ok (.ret (.ref (zH4 "tuple_iterator" s.heap l1 l2).objs.size))) { s with heap := zH5 "tuple_iterator" s.heap l1 l2 }) :=
  .of_wp fun prog w A R s h => by
    obtain ⟨hp, g, d, tk, os⟩ := s; obtain ⟨hl1, hl2, h⟩ := h
    have hsub := sub_zip
    have hL1 : Heap.IsTuple (Shared.heap ⟨hp, g, d, tk, os⟩) l1 xs := hl1
    have hL2 : Heap.IsTuple (Shared.heap ⟨hp.push { cls := .type "tuple_iterator", data := .fields #[.ref l1, .int 0 0] }, g, d, tk, os⟩) l2 ys := Heap.IsTuple.push hl2 _
    have e2 : (Str.ofString "strict" != ("strict" : Str)) = false := by decide +kernel
    wp_walk using wpAny_pyIter_tuple hL1, wpAny_pyIter_tuple hL2
    exact ⟨_, rfl, h⟩
theorem meets_L (l1 l2 : Addr) (xs ys : Array Value) :
    Meets (Builtin.«zip.__new__» ⟨[.type "zip", .ref l1, .ref l2], [(Str.ofString "strict", .bool true)]⟩) (fun _ R s => s.heap.IsList l1 xs ∧ s.heap.IsList l2 ys ∧
      R (.ok (.ret (.ref (zH4 "list_iterator" s.heap l1 l2).objs.size))) { s with heap := zH5 "list_iterator" s.heap l1 l2 }) :=
  .of_wp fun prog w A R s h => by
    obtain ⟨hp, g, d, tk, os⟩ := s; obtain ⟨hl1, hl2, h⟩ := h
    have hsub := sub_zip
    have hL1 : Heap.IsList (Shared.heap ⟨hp, g, d, tk, os⟩) l1 xs := hl1
    have hL2 : Heap.IsList (Shared.heap ⟨hp.push { cls := .type "list_iterator", data := .fields #[.ref l1, .int 0 0] }, g, d, tk, os⟩) l2 ys := Heap.IsList.push hl2 _
    have e2 : (Str.ofString "strict" != ("strict" : Str)) = false := by decide +kernel
    wp_walk using wpAny_pyIter_list hL1, wpAny_pyIter_list hL2
    exact ⟨_, rfl, h⟩
end
section
variable {prog : Program} {w : World} {A : Around} {E : Value → Shared → Prop} {s : Shared}
theorem zs_cells (T : String) (h : Heap) (l1 l2 : Addr) : IsZs (zH5 T h l1 l2) (h.objs.size + 4) (h.objs.size + 2) (h.objs.size + 3) .none (.bool false) ∧ IsTupOf2 (zH5 T h l1 l2) (h.objs.size + 2) (.ref h.objs.size) (.ref (h.objs.size + 1)) ∧
      IsTupOf2 (zH5 T h l1 l2) (h.objs.size + 3) .none .none ∧ (∃ o, (zH5 T h l1 l2).get? h.objs.size = some o ∧ o.cls = .type T ∧ o.data = .fields #[.ref l1, .int 0 0]) ∧ (∃ o, (zH5 T h l1 l2).get? (h.objs.size + 1) = some o ∧ o.cls = .type T ∧ o.data = .fields #[.ref l2, .int 0 0]) ∧ (zH5 T h l1 l2).objs.size = h.objs.size + 5 ∧
      (∀ c o, h.get? c = some o → (zH5 T h l1 l2).get? c = some o) ∧ (zH4 T h l1 l2).objs.size = h.objs.size + 4 := by
  have z1 : (zH1 T h l1).objs.size = h.objs.size + 1 := Heap.size_push ..
  have z2 : (zH2 T h l1 l2).objs.size = h.objs.size + 2 := by rw [Heap.size_push, z1]
  have z3 : (zH3 T h l1 l2).objs.size = h.objs.size + 3 := by rw [Heap.size_push, z2]
  have z4 : (zH4 T h l1 l2).objs.size = h.objs.size + 4 := by rw [Heap.size_push, z3]
  have z5 : (zH5 T h l1 l2).objs.size = h.objs.size + 5 := by rw [Heap.size_push, z4]
  have g5 : (zH5 T h l1 l2).get? (zH4 T h l1 l2).objs.size = some _ := Heap.get?_push_size _ rfl
  have g4 : (zH5 T h l1 l2).get? (zH3 T h l1 l2).objs.size = some _ := Heap.get?_push_of_some _ (Heap.get?_push_size _ rfl)
  have g3 : (zH5 T h l1 l2).get? (zH2 T h l1 l2).objs.size = some _ := Heap.get?_push_of_some _ (Heap.get?_push_of_some _ (Heap.get?_push_size _ rfl))
  have g2 : (zH5 T h l1 l2).get? (zH1 T h l1).objs.size = some _ := Heap.get?_push_of_some _ (Heap.get?_push_of_some _ (Heap.get?_push_of_some _ (Heap.get?_push_size _ rfl)))
  have g1 : (zH5 T h l1 l2).get? h.objs.size = some _ := Heap.get?_push_of_some _ (Heap.get?_push_of_some _ (Heap.get?_push_of_some _ (Heap.get?_push_of_some _ (Heap.get?_push_size _ rfl))))
  rw [z2, z3, z4] at g5
  rw [z1, z2] at g3
  rw [z3] at g4
  rw [z1] at g2
  exact ⟨g5, g3, g4, ⟨_, g1, rfl, rfl⟩, ⟨_, g2, rfl, rfl⟩, z5, fun c o x => Heap.get?_push_of_some _ (Heap.get?_push_of_some _ (Heap.get?_push_of_some _ (Heap.get?_push_of_some _ (Heap.get?_push_of_some _ x)))), z4⟩
theorem call_zsT {l1 l2 : Addr} {xs ys : Array Value} {Q : Value → Shared → Prop} (hl1 : s.heap.IsTuple l1 xs) (hl2 : s.heap.IsTuple l2 ys)
    (h : ∀ h', IsZs h' (s.heap.objs.size + 4) (s.heap.objs.size + 2) (s.heap.objs.size + 3) .none (.bool false) → IsTupOf2 h' (s.heap.objs.size + 2) (.ref s.heap.objs.size) (.ref (s.heap.objs.size + 1)) →
      IsTupOf2 h' (s.heap.objs.size + 3) .none .none → h'.IsTupleIter s.heap.objs.size l1 0 → h'.IsTupleIter (s.heap.objs.size + 1) l2 0 → h'.objs.size = s.heap.objs.size + 5 →
      (∀ c o, s.heap.get? c = some o → h'.get? c = some o) → Q (.ref (s.heap.objs.size + 4)) { s with heap := h' }) :
    wpAny (model prog w) A (call (.type "zip") [.ref l1, .ref l2] [(Str.ofString "strict", .bool true)]) Q E s := by
  refine callType_newKw F.called_zip (by decide) (ZF.typeCall _ _ _) (ZF.newCall _ _ _) (fun obj => ZF.args obj _ _ _) F.entry_zip_new (meets_T l1 l2 xs ys) ⟨hl1, hl2, ?_⟩
  obtain ⟨c1, c2, c3, c4, c5, c6, c7, c8⟩ := zs_cells "tuple_iterator" s.heap l1 l2
  show _ ∧ _
  rw [c8]
  exact ⟨⟨_, c1, rfl⟩, h _ c1 c2 c3 c4 c5 c6 c7⟩
theorem call_zsL {l1 l2 : Addr} {xs ys : Array Value} {Q : Value → Shared → Prop} (hl1 : s.heap.IsList l1 xs) (hl2 : s.heap.IsList l2 ys)
    (h : ∀ h', IsZs h' (s.heap.objs.size + 4) (s.heap.objs.size + 2) (s.heap.objs.size + 3) .none (.bool false) → IsTupOf2 h' (s.heap.objs.size + 2) (.ref s.heap.objs.size) (.ref (s.heap.objs.size + 1)) →
      IsTupOf2 h' (s.heap.objs.size + 3) .none .none → h'.IsListIter s.heap.objs.size l1 0 → h'.IsListIter (s.heap.objs.size + 1) l2 0 → h'.objs.size = s.heap.objs.size + 5 →
      (∀ c o, s.heap.get? c = some o → h'.get? c = some o) → Q (.ref (s.heap.objs.size + 4)) { s with heap := h' }) :
    wpAny (model prog w) A (call (.type "zip") [.ref l1, .ref l2] [(Str.ofString "strict", .bool true)]) Q E s := by
  refine callType_newKw F.called_zip (by decide) (ZF.typeCall _ _ _) (ZF.newCall _ _ _) (fun obj => ZF.args obj _ _ _) F.entry_zip_new (meets_L l1 l2 xs ys) ⟨hl1, hl2, ?_⟩
  obtain ⟨c1, c2, c3, c4, c5, c6, c7, c8⟩ := zs_cells "list_iterator" s.heap l1 l2
  show _ ∧ _
  rw [c8]
  exact ⟨⟨_, c1, rfl⟩, h _ c1 c2 c3 c4 c5 c6 c7⟩
end
end PF
-- part PfZ3
set_option Elab.async false
set_option linter.all false
set_option maxRecDepth 100000
set_option maxHeartbeats 4000000
namespace PF
open PySem PySem.Spec PyProof.Rows L2
theorem callWith_tyK {M : Model} {A : Around} {env : Env} {E : Value → Shared → Prop} {s : Shared} {pos : Pos} {T : String} {e : Expr} {rest : List Expr} {kws : List Keyword} {Q : Value → Shared → Prop}
    (h : wpAny M A (spliced (backTo pos (starEach (e :: rest) env))) (fun vs s1 => wpAny M A (evalAll ((backToKw pos (keywordEach kws env)).map (·.2)))
      (fun kvs s2 => wpAny M A (call (.type T) vs (((backToKw pos (keywordEach kws env)).filterMap (·.1)).zip kvs)) Q E s2) E s1) E s)
    (he : backTo pos (starEach (e :: rest) env) = (false, eval e env) :: backTo pos (starEach rest env) := by rfl)
    (hplain : (backTo pos (starEach (e :: rest) env)).any (·.1) = false := by rfl)
    (hall : (backToKw pos (keywordEach kws env)).all (·.1.isSome) = true := by rfl)
    (hkw : (backToKw pos (keywordEach kws env)).any (·.1.isNone) = false := by rfl) :
    wpAny M A (callWith pos (.type T) [] (backTo pos (starEach (e :: rest) env)) (backToKw pos (keywordEach kws env))) Q E s := by
  unfold callWith
  have h2 : wpAny M A (evalArgs (.type T) true (backTo pos (starEach (e :: rest) env)) (backToKw pos (keywordEach kws env))) (fun a s1 => wpAny M A (call (.type T) ([] ++ a.pos) a.kw) Q E s1) E s := by
    rw [he] at h ⊢
    exact evalArgs_kwB hall h
  refine wpAny_bind (wpAny_holding (wpAny_mono h2 (fun a s1 h1 => wpAny_bind (wpAny_standAt ?_)) fun _ _ x => x))
  simp only [hplain, hkw, Bool.or_false]
  refine wpAny_bind (wpAny_pure ?_)
  exact wpAny_bind (wpAny_mono h1 (fun r s2 hr => wpAny_bind (wpAny_holding (wpAny_point (wpAny_pure hr)))) fun _ _ x => x)
/-- the lists at a and b, of one length -/
def Itzs (K : PySem.W.Frag) (a b : Addr) : It :=
  ⟨fun i H => ∃ (xs ys : List V) (x y : V), SqL K H a xs ∧ SqL K H b ys ∧ xs[i]? = some x ∧ ys[i]? = some y,
    fun i H v H' => ∃ T x y, v = .ref T ∧ H T = none ∧ H' = upd H T (.tup [x, y]) ∧ (∀ xs, SqL K H a xs → xs[i]? = some x) ∧ ∀ ys, SqL K H b ys → ys[i]? = some y,
    fun i H => ∃ xs ys : List V, SqL K H a xs ∧ SqL K H b ys ∧ xs.length = i ∧ ys.length = i⟩
theorem turn_zs {P : Program} {w : World} {K : PySem.W.Frag} {elts : List Expr} {kk : Nat} {tpos : Pos} {a b z TI TO i1 i2 : Addr} (D : ZipSep2 z TI TO i1 i2 [i1, a] [i2, b]) (na : a ≠ i1) (nb : b ≠ i2) :
    Turn P w K (.Tuple elts kk tpos) (Itzs K a b) [z, TI, TO, i1, i2] z (fun i h => (∃ f, IsZs h z TI TO .none f) ∧ IsTupOf2 h TI (.ref i1) (.ref i2) ∧ (∃ x y, IsTupOf2 h TO x y) ∧ h.IsListIter i1 a i ∧ h.IsListIter i2 b i) where
  mem := by simp
  obj := fun i h st c hc => by
    obtain ⟨⟨f, hz⟩, hTI, ⟨x, y, hTO⟩, ⟨o1, e1, _, d1⟩, ⟨o2, e2, _, d2⟩⟩ := st
    have e' : c = z ∨ c = TI ∨ c = TO ∨ c = i1 ∨ c = i2 := by simpa using hc
    rcases e' with q | q | q | q | q
    · rw [q]; exact ⟨_, hz, fun v q => nomatch q⟩
    · rw [q]; exact ⟨_, hTI, fun v q => nomatch q⟩
    · rw [q]; exact ⟨_, hTO, fun v q => nomatch q⟩
    · rw [q]; exact ⟨o1, e1, fun v q => by rw [d1] at q; cases q⟩
    · rw [q]; exact ⟨o2, e2, fun v q => by rw [d2] at q; cases q⟩
  keep := fun i h h' st k => by
    obtain ⟨⟨f, hz⟩, hTI, ⟨x, y, hTO⟩, h1, h2⟩ := st
    exact ⟨⟨f, k z (by simp) _ hz⟩, k TI (by simp) _ hTI, ⟨x, y, k TO (by simp) _ hTO⟩, h1.at fun o q => k i1 (by simp) o q, h2.at fun o q => k i2 (by simp) o q⟩
  item := by
    intro X hP hw hK hc i pins s σ H E I hf st hg
    subst hP hw hK
    obtain ⟨⟨f, hz⟩, hTI, ⟨x0, y0, hTO⟩, h1, h2⟩ := st
    obtain ⟨xs, ys, x, y, hqx, hqy, hx, hy⟩ := hg
    obtain ⟨its, rv, p, _⟩ := I.list hqx
    obtain ⟨its2, rv2, p2, _⟩ := I.list hqy
    obtain ⟨u, hu, ru⟩ := rv.get hx
    obtain ⟨u2, hu2, ru2⟩ := rv2.get hy
    have hzl : z < s.heap.objs.size := Heap.lt_size hz
    have l1 : i < its.toArray.size := by
      rw [List.size_toArray]
      exact (List.getElem?_eq_some_iff.mp hu).1
    have l2 : i < its2.toArray.size := by
      rw [List.size_toArray]
      exact (List.getElem?_eq_some_iff.mp hu2).1
    have D1 := Draws.list (prog := X.prog) (w := X.w) (A := X.A.in1) (show X.A.in1.handled = none from I.ok.hd hc) i1 a na its.toArray
    have D2 := Draws.list (prog := X.prog) (w := X.w) (A := X.A.in1) (show X.A.in1.handled = none from I.ok.hd hc) i2 b nb its2.toArray
    refine next_zs_free D D1 D2 hz hTI hTO ⟨h1, p.isList⟩ ⟨h2, p2.isList⟩ l1 l2 fun x1 x2 h' tk y1 y2 z' TO' h1' h2' hT hsz hk => ?_
    obtain rfl : x1 = u := by simpa [hu] using y1.symm
    obtain rfl : x2 = u2 := by simpa [hu2] using y2.symm
    refine ⟨_, rfl, letgo_zs (s := { s with heap := h', toks := tk }) z' fun h'' z'' sb => ?_⟩
    have hT2 : h''.get? s.heap.objs.size = some { cls := .type "tuple", data := .seq #[x1, x2] } := (sb.2 _ (Nat.ne_of_gt hzl)).trans hT
    have new : ObjOk X.prog X.w (upd H s.heap.objs.size (.tup [x, y])) h'' s.heap.objs.size (.tup [x, y]) :=
      ⟨by show 2 ≤ sizeLine; decide, [x1, x2], .cons ru (.cons ru2 .nil), ⟨_, hT2, rfl, _, rfl⟩⟩
    have I1 : Inv X pins σ (upd H s.heap.objs.size (.tup [x, y])) { s with heap := h'', toks := tk } :=
      I.turnedNew (t' := tk) (ch := [z, TI, TO, i1, i2]) (fun c o hb q => (sb.2 c (fun q' => hb (by simp [q']))).trans (hk c o (fun q' => hb (by simp [q'])) (fun q' => hb (by simp [q'])) (fun q' => hb (by simp [q'])) (fun q' => hb (by simp [q'])) q)) hf (Nat.le_refl _) new
    refine ⟨.ref s.heap.objs.size, _, I1, rfl, ⟨_, x, y, rfl, I.hok.fresh (Nat.le_refl _), rfl, fun l hl => by rw [I.list_inj hl hqx]; exact hx, fun l hl => by rw [I.list_inj hl hqy]; exact hy⟩, ⟨⟨_, z''⟩, ?_, ⟨x1, x2, ?_⟩, ?_, ?_⟩, fun c hcm => ?_⟩
    · exact (sb.2 _ D.TIz).trans (hk _ _ D.TIz D.TITO D.TIi1 D.TIi2 hTI)
    · exact (sb.2 _ D.TOz).trans TO'
    · exact h1'.1.at fun o q => (sb.2 _ D.zi1.symm).trans q
    · exact h2'.1.at fun o q => (sb.2 _ D.zi2.symm).trans q
    · have hlt : c < s.heap.objs.size := by
        have e' : c = z ∨ c = TI ∨ c = TO ∨ c = i1 ∨ c = i2 := by simpa using hcm
        rcases e' with q | q | q | q | q
        · rw [q]; exact hzl
        · rw [q]; exact Heap.lt_size hTI
        · rw [q]; exact Heap.lt_size hTO
        · rw [q]; obtain ⟨_, e1, _⟩ := h1; exact Heap.lt_size e1
        · rw [q]; obtain ⟨_, e2, _⟩ := h2; exact Heap.lt_size e2
      rw [upd_ne (Nat.ne_of_lt hlt)]
      exact (hf c hcm).1
  done := by
    intro X hP hw hK hc i pins s σ H E I hf st hg
    subst hP hw hK
    obtain ⟨⟨f, hz⟩, hTI, ⟨x0, y0, hTO⟩, h1, h2⟩ := st
    obtain ⟨xs, ys, hqx, hqy, e1, e2⟩ := hg
    obtain ⟨its, rv, p, _⟩ := I.list hqx
    obtain ⟨its2, rv2, p2, _⟩ := I.list hqy
    have l1 : its.toArray.size = i := by rw [List.size_toArray, ← rv.length]; exact e1
    have l2 : its2.toArray.size = i := by rw [List.size_toArray, ← rv2.length]; exact e2
    have D1 := Draws.list (prog := X.prog) (w := X.w) (A := X.A.in1) (show X.A.in1.handled = none from I.ok.hd hc) i1 a na its.toArray
    have D2 := Draws.list (prog := X.prog) (w := X.w) (A := X.A.in1) (show X.A.in1.handled = none from I.ok.hd hc) i2 b nb its2.toArray
    refine next_zs_end (I.ok.hd hc) D D1 D2 hz (.inl rfl) hTI ⟨by rw [l1]; exact h1, p.isList⟩ ⟨by rw [l2]; exact h2, p2.isList⟩ fun h' hk => ⟨rfl, I.turnedL (t' := s.toks) (ch := [z, TI, TO, i1, i2]) (fun c o hb q =>
      hk c o (fun q' => hb (by simp [q'])) (fun q' => hb (by simp [q'])) (fun q' => hb (by simp [q'])) q) hf⟩
  self := fun A i s Q E st h => by
    obtain ⟨⟨f, hz⟩, _⟩ := st
    exact iter_zs hz h
def iZs (K : PySem.W.Frag) (ta : TA) : TI := fun σ H R => ta σ H fun vs H1 => ∃ a b xs ys, vs = [.ref a, .ref b] ∧ SqL K H1 a xs ∧ SqL K H1 b ys ∧ R (Itzs K a b) H1
theorem pi_zs {X : Cx} {e e2 tru : Expr} {ta : TA} {p kp pos tpos : Pos} {elts : List Expr} {kk : Nat} (hg : Gl X "zip") (hm : X.mg "zip" = none) (ha : PA X [e, e2] ta) (ht : PE X tru (tC (.bl true)))
    (hbt : backTo pos (starEach [e, e2] X.env) = (false, eval e X.env) :: backTo pos (starEach [e2] X.env) := by rfl) (hpl : (backTo pos (starEach [e, e2] X.env)).any (·.1) = false := by rfl) :
    PI X (.Tuple elts kk tpos) (.Call (.Name "zip" p) [e, e2] [⟨some "strict", tru, kp⟩] pos) (iZs X.K ta) := by
  refine ⟨fun pins s σ H R I h => ?_⟩
  refine wpAny_Call_Name_kw (ld_blt I hg hm PyProof.Rows.boot_zip (callWith_tyK (thn (ha.run pos pins s σ H _ I h) fun us s1 ⟨vs, H1, I1, r1, q1⟩ => ?_) hbt hpl rfl rfl) (by decide) (by decide))
  obtain ⟨a, b, xs, ys, ex, hqx, hqy, q⟩ := q1
  subst ex
  cases r1 with
  | cons r rr =>
    cases rr with
    | cons r' rr =>
      cases rr
      cases r
      cases r'
      refine kwAll_cons (thn (ht.run pins s1 σ H1 (fun v H2 => v = .bl true ∧ H2 = H1) I1 ⟨rfl, rfl⟩) fun u s2 ⟨v, H2, I2, rv2, hv⟩ => kwAll_nil ?_)
      obtain ⟨rfl, rfl⟩ := hv
      obtain rfl : u = Value.bool true := rv2
      show wpAny _ _ (call (.type "zip") [.ref a, .ref b] [(Str.ofString "strict", .bool true)]) _ _ s2
      obtain ⟨its, rv, p1, _⟩ := I2.list hqx
      obtain ⟨its2, rv2, p2, _⟩ := I2.list hqy
      have la : a < s2.heap.objs.size := p1.lt
      have lb : b < s2.heap.objs.size := p2.lt
      refine call_zsL p1.isList p2.isList fun h' hz hTI hTO h1 h2 hsz hk => iter_zs hz ?_
      have I3 : Inv X pins σ H2 { s2 with heap := h' } := I2.kept (t' := s2.toks) hk
      refine ⟨s2.heap.objs.size + 4, [s2.heap.objs.size + 4, s2.heap.objs.size + 2, s2.heap.objs.size + 3, s2.heap.objs.size, s2.heap.objs.size + 1], _, _, H2, rfl, I3, turn_zs (sep2 s2.heap.objs.size a b la lb) (Nat.ne_of_lt la) (Nat.ne_of_lt (Nat.lt_succ_of_lt lb)), ⟨⟨_, hz⟩, hTI, ⟨_, _, hTO⟩, h1, h2⟩, fun c hcm => ?_, q⟩
      have e' : c = s2.heap.objs.size + 4 ∨ c = s2.heap.objs.size + 2 ∨ c = s2.heap.objs.size + 3 ∨ c = s2.heap.objs.size ∨ c = s2.heap.objs.size + 1 := by simpa using hcm
      have hle : s2.heap.objs.size ≤ c := by
        rcases e' with z | z | z | z | z
        · rw [z]; exact Nat.le_add_right _ _
        · rw [z]; exact Nat.le_add_right _ _
        · rw [z]; exact Nat.le_add_right _ _
        · rw [z]; exact Nat.le_refl _
        · rw [z]; exact Nat.le_add_right _ _
      exact I2.fpOk hle (I2.hok.fresh hle)
end PF
-- part PfZ4
set_option Elab.async false
set_option linter.all false
set_option maxRecDepth 100000
set_option maxHeartbeats 4000000
namespace PF
open PySem PySem.Spec PyProof.Rows L2
/-- many new objects laid and tracked at once -/
theorem inv_many {X : Cx} {pins : List (Addr × Obj)} {σ : L2.St} {H H' : Hp} {s : Shared} {h' : Heap} {t' : Nat} (I : Inv X pins σ H s) (k : ∀ b o, s.heap.get? b = some o → h'.get? b = some o)
    (up : ∀ b u, H b = some u → H' b = some u) (nw : ∀ b, H b = none → H' b ≠ none → s.heap.objs.size ≤ b) (new : ∀ b u, H b = none → H' b = some u → ObjOk X.prog X.w H' h' b u) : Inv X pins σ H' { s with heap := h', toks := t' } := by
  refine I.step (g' := s.gens) (d' := s.drawn) (ch := []) (fun b hb => absurd hb (by simp)) (fun b o _ _ hc e _ => k b o e) (fun b o _ _ hc e _ => ⟨o.slots, k b o e⟩)
    (fun b o _ e n => ?_) (fun b o hc e => ⟨o, k b o e⟩) (fun b xs e => up _ _ e) (fun b o u e => up _ _ e) (fun b ps e => ⟨#[], ?_⟩) (fun m hm => ?_) (fun b u e => ?_) I.bare
  · cases e2 : H' b with
    | none => rfl
    | some u => exact absurd (Nat.lt_of_lt_of_le (Heap.lt_size e) (nw b n (by rw [e2]; simp))) (Nat.lt_irrefl _)
  · rw [up _ _ e]; simp
  · obtain ⟨o, es, ep, ho, r⟩ := hm
    exact ⟨o, es, ep, k _ o ho, r⟩
  · cases e2 : H b with
    | none => exact new b u e2 e
    | some u2 =>
      have := up _ _ e2
      rw [e] at this
      cases this
      exact (I.hok b u e2).stay (fun c v hc q => k c v q) (fun c q => up _ _ q) fun c xs q => up _ _ q
/-- new pairs of two rows -/
inductive NewP : Hp → List (V × V) → List Addr → Hp → Prop
  | nil {H : Hp} : NewP H [] [] H
  | snoc {H H' : Hp} {l : List (V × V)} {ps : List Addr} {T : Addr} {x y : V} : NewP H l ps H' → H' T = none → NewP H (l ++ [(x, y)]) (ps ++ [T]) (upd H' T (.tup [x, y]))
structure ZJ (h0 : Heap) (B : Nat) (z TI TO i1 i2 a b S : Addr) (xs ys : Array Value) (i : Nat) (acc : Array Value) (c : Nat) (h : Heap) : Prop where
  ac : acc = ((List.range i).map fun j => Value.ref (B + j)).toArray
  sl : h.get? S = some { cls := .type "list", dict := none, data := .seq acc c, slots := #[] }
  sz : h.objs.size = B + i
  zs : ∃ f0 f1, IsZs h z TI TO f0 f1 ∧ ((i = 0 ∧ f0 = .none) ∨ (0 < i ∧ f0 = rawInt B))
  ti : IsTupOf2 h TI (.ref i1) (.ref i2)
  to : ∃ x y, IsTupOf2 h TO x y
  t1 : h.IsTupleIter i1 a i
  t2 : h.IsTupleIter i2 b i
  l1 : h.IsTuple a xs
  l2 : h.IsTuple b ys
  pr : ∀ j, j < i → ∃ x y, xs[j]? = some x ∧ ys[j]? = some y ∧ IsTupOf2 h (B + j) x y
  kp : ∀ c o, h0.get? c = some o → h.get? c = some o
structure ZL (h0 : Heap) (B : Nat) (z TI TO i1 i2 a b S : Addr) : Prop where
  D : ZipSep2 z TI TO i1 i2 [i1, a] [i2, b]
  na : a ≠ i1
  nb : b ≠ i2
  zB : z < B
  TOB : TO < B
  i1B : i1 < B
  i2B : i2 < B
  SB : S < B
  Sz : S ≠ z
  STI : S ≠ TI
  STO : S ≠ TO
  Si1 : S ≠ i1
  Si2 : S ≠ i2
  Sa : S ≠ a
  Sb : S ≠ b
  hz : h0.objs.size ≤ z
  hTO : h0.objs.size ≤ TO
  hi1 : h0.objs.size ≤ i1
  hi2 : h0.objs.size ≤ i2
  hS : h0.objs.size ≤ S
  az : a ≠ z
  aTO : a ≠ TO
  ai2 : a ≠ i2
  bz : b ≠ z
  bTO : b ≠ TO
  bi1 : b ≠ i1
theorem ext_zs {prog : Program} {w : World} {A : Around} {R : Result → Shared → Prop} {h0 : Heap} {B : Nat} {z TI TO i1 i2 a b S : Addr} {xs ys : Array Value} {n : Nat} (hh : A.handled = none) (L : ZL h0 B z TI TO i1 i2 a b S) (nx : xs.size = n) (ny : ys.size = n) (hn : n ≤ sizeLine) (res : Value) :
    ∀ (k i : Nat) (s : Shared) (acc : Array Value) (c : Nat), n - i = k → i ≤ n → ZJ h0 B z TI TO i1 i2 a b S xs ys i acc c s.heap →
      (∀ h' tk c', h'.get? S = some { cls := .type "list", dict := none, data := .seq ((List.range n).map fun j => Value.ref (B + j)).toArray c', slots := #[] } → (∀ j, j < n → ∃ x y, xs[j]? = some x ∧ ys[j]? = some y ∧ IsTupOf2 h' (B + j) x y) →
        (∀ c o, h0.get? c = some o → h'.get? c = some o) → R (.ok (.ret res)) { s with heap := h', toks := tk }) →
      codeAny (model prog w) A (.builtin "list.extend.loop" ⟨[.ref S, .ref z, res], []⟩) R s := by
  have D1 := drawsT (prog := prog) (w := w) (A := A.in1.in1) (show A.in1.in1.handled = none from hh) i1 a L.na xs
  have D2 := drawsT (prog := prog) (w := w) (A := A.in1.in1) (show A.in1.in1.handled = none from hh) i2 b L.nb ys
  have nz : ∀ j, B + j ≠ z := fun j => Nat.ne_of_gt (Nat.lt_of_lt_of_le L.zB (Nat.le_add_right _ _))
  have nTO : ∀ j, B + j ≠ TO := fun j => Nat.ne_of_gt (Nat.lt_of_lt_of_le L.TOB (Nat.le_add_right _ _))
  have n1 : ∀ j, B + j ≠ i1 := fun j => Nat.ne_of_gt (Nat.lt_of_lt_of_le L.i1B (Nat.le_add_right _ _))
  have n2 : ∀ j, B + j ≠ i2 := fun j => Nat.ne_of_gt (Nat.lt_of_lt_of_le L.i2B (Nat.le_add_right _ _))
  have nS : ∀ j, B + j ≠ S := fun j => Nat.ne_of_gt (Nat.lt_of_lt_of_le L.SB (Nat.le_add_right _ _))
  intro k
  induction k with
  | zero =>
    intro i s acc c hk hi J hR
    have hin : i = n := by omega
    subst hin
    refine codeAny_builtin F.entry_extend_loop ?_
    rw [Around.under_plainId F.plain_extend_loop _]
    show wpAny _ A.in1 (pyNext (.ref z) >>= _) _ _ s
    obtain ⟨f0, f1, hz, hf⟩ := J.zs
    have hlive : f0 = .none ∨ ∃ (T : Addr) (o : Obj), f0 = rawInt T ∧ s.heap.get? T = some o := by
      rcases hf with ⟨_, e⟩ | ⟨h, e⟩
      · exact .inl e
      · obtain ⟨x, y, _, _, e3⟩ := J.pr 0 h
        exact .inr ⟨B, _, e, e3⟩
    refine wpAny_bind (next_zs_end (show A.in1.handled = none from hh) L.D D1 D2 hz hlive J.ti ⟨by rw [nx]; exact J.t1, J.l1⟩ ⟨by rw [ny]; exact J.t2, J.l2⟩ fun h' hk' => ?_)
    refine wpAny_pure (hR h' s.toks c ?_ (fun j hj => ?_) fun c o e => ?_)
    · rw [← J.ac]
      exact hk' _ _ L.Sz L.Si1 L.Si2 J.sl
    · obtain ⟨x, y, e1, e2, e3⟩ := J.pr j hj
      have p1 := L.zB
      have p2 := L.i1B
      have p3 := L.i2B
      exact ⟨x, y, e1, e2, hk' _ _ (nz j) (n1 j) (n2 j) e3⟩
    · have hc := Heap.lt_size e
      exact hk' _ _ (Nat.ne_of_lt (Nat.lt_of_lt_of_le hc L.hz)) (Nat.ne_of_lt (Nat.lt_of_lt_of_le hc L.hi1)) (Nat.ne_of_lt (Nat.lt_of_lt_of_le hc L.hi2)) (J.kp _ _ e)
  | succ k ih =>
    intro i s acc c hk hi J hR
    have hlt : i < n := by omega
    refine codeAny_builtin F.entry_extend_loop ?_
    rw [Around.under_plainId F.plain_extend_loop _]
    show wpAny _ A.in1 (pyNext (.ref z) >>= _) _ _ s
    obtain ⟨f0, f1, hz, hf⟩ := J.zs
    obtain ⟨x0, y0, hTO⟩ := J.to
    have p1 := L.zB
    have p2 := L.i1B
    have p3 := L.i2B
    have p4 := L.TOB
    have p5 := L.SB
    have hacc : acc.size = i := by rw [J.ac]; simp
    have go : ∀ (h' : Heap) (tk : Nat) (x1 x2 : Value), xs[i]? = some x1 → ys[i]? = some x2 → (∃ f, IsZs h' z TI TO (rawInt B) f) → (∃ x y, IsTupOf2 h' TO x y) → h'.IsTupleIter i1 a (i + 1) → h'.IsTupleIter i2 b (i + 1) → IsTupOf2 h' s.heap.objs.size x1 x2 → h'.objs.size = s.heap.objs.size + 1 →
        (∀ c o, c ≠ z → c ≠ TO → c ≠ i1 → c ≠ i2 → s.heap.get? c = some o → h'.get? c = some o) →
        wpAny (model prog w) A.in1 (updateSeq S (·.push (.ref s.heap.objs.size)) >>= fun _ => again (.builtin "list.extend.loop" ⟨[.ref S, .ref z, res], []⟩)) (fun fin s' => match fin with | .done f => R (.ok f) s' | .again c' => c'.quiet = true ∧ codeAny (model prog w) A c' R s') (fun e s' => R (.error e) s') { s with heap := h', toks := tk } := fun h' tk x1 x2 e1 e2 hz' hTO' h1' h2' hT hsz hk' => by
      obtain ⟨f, hz'⟩ := hz'
      obtain ⟨x', y', hTO'⟩ := hTO'
      have hS' := hk' _ _ L.Sz L.STO L.Si1 L.Si2 J.sl
      have oth : ∀ b o, b ≠ S → h'.get? b = some o → (h'.update S (Obj.mapSeq (·.push (.ref s.heap.objs.size)))).get? b = some o := fun b o hb e => (Heap.get?_update_other _ _ (Ne.symm hb)).trans e
      have neS : B + i ≠ S := nS i
      refine wpAny_bind (wpAny_updateSeq (s := { s with heap := h', toks := tk }) hS' rfl (wpAny_pure ⟨plainId_quiet F.plain_extend_loop _, ih (i + 1) _ (acc.push (.ref s.heap.objs.size)) _ (by omega) hlt ⟨?_, Heap.get?_update_self _ hS' rfl, ?_, ⟨_, f, oth _ _ L.Sz.symm hz', .inr ⟨Nat.succ_pos _, rfl⟩⟩, ?_, ⟨x', y', oth _ _ L.STO.symm hTO'⟩, h1'.at fun o e => oth _ _ L.Si1.symm e, h2'.at fun o e => oth _ _ L.Si2.symm e, ?_, ?_, fun j hj => ?_, fun c o e => ?_⟩ fun h'' tk' c' q1 q2 q3 => ?_⟩)
        (by rw [hacc]; omega) (by show (acc.push _).size ≤ sizeLine + 1; rw [Array.size_push, hacc]; omega))
      · rw [J.ac, J.sz, List.range_succ, List.map_append]
        simp
      · show (h'.update S _).objs.size = B + (i + 1)
        rw [Heap.size_update, hsz, J.sz]; omega
      · exact oth _ _ L.STI.symm (hk' _ _ L.D.TIz L.D.TITO L.D.TIi1 L.D.TIi2 J.ti)
      · obtain ⟨o, ho, r⟩ := J.l1
        exact ⟨o, oth _ _ L.Sa.symm (hk' _ _ L.az L.aTO L.na L.ai2 ho), r⟩
      · obtain ⟨o, ho, r⟩ := J.l2
        exact ⟨o, oth _ _ L.Sb.symm (hk' _ _ L.bz L.bTO L.bi1 L.nb ho), r⟩
      · by_cases hji : j = i
        · subst hji
          refine ⟨x1, x2, e1, e2, oth _ _ neS ?_⟩
          rw [← J.sz]
          exact hT
        · obtain ⟨x, y, e3, e4, e5⟩ := J.pr j (by omega)
          exact ⟨x, y, e3, e4, oth _ _ (nS j) (hk' _ _ (nz j) (nTO j) (n1 j) (n2 j) e5)⟩
      · have hc := Heap.lt_size e
        exact oth _ _ (Nat.ne_of_lt (Nat.lt_of_lt_of_le hc L.hS)) (hk' _ _ (Nat.ne_of_lt (Nat.lt_of_lt_of_le hc L.hz)) (Nat.ne_of_lt (Nat.lt_of_lt_of_le hc L.hTO)) (Nat.ne_of_lt (Nat.lt_of_lt_of_le hc L.hi1)) (Nat.ne_of_lt (Nat.lt_of_lt_of_le hc L.hi2)) (J.kp _ _ e))
      · exact hR h'' tk' c' q1 q2 q3
    rcases hf with ⟨h, rfl⟩ | ⟨h, rfl⟩
    · subst h
      refine wpAny_bind (next_zs_free L.D D1 D2 hz J.ti hTO ⟨J.t1, J.l1⟩ ⟨J.t2, J.l2⟩ (by omega) (by omega) fun x1 x2 h' tk e1 e2 z' TO' h1' h2' hT hsz hk' => ?_)
      refine go h' tk x1 x2 e1 e2 ⟨.bool false, ?_⟩ ⟨_, _, TO'⟩ h1'.1 h2'.1 hT hsz hk'
      have := J.sz
      rw [Nat.add_zero] at this
      rw [← this]
      exact z'
    · obtain ⟨x, y, _, _, e5⟩ := J.pr 0 h
      refine wpAny_bind (next_zs_busy L.D D1 D2 hz ⟨_, e5⟩ J.ti ⟨J.t1, J.l1⟩ ⟨J.t2, J.l2⟩ (by omega) (by omega) fun x1 x2 h' tk f e1 e2 z' h1' h2' hT hsz hk' => ?_)
      exact go h' tk x1 x2 e1 e2 ⟨_, z'⟩ ⟨_, _, hk' _ _ L.D.TOz L.D.Ti1 L.D.Ti2 hTO⟩ h1'.1 h2'.1 hT hsz fun c o a1 _ a3 a4 e => hk' c o a1 a3 a4 e
end PF
-- part PfZ5
set_option Elab.async false
set_option linter.all false
set_option maxRecDepth 100000
set_option maxHeartbeats 4000000
namespace PF
open PySem PySem.Spec PyProof.Rows L2
namespace ZF
theorem no_len : typeLookup (.type "zip") "__len__" = pure none := by rw [typeLookup_type, builtinLookup_eq_fast]; kernel_rfl
theorem no_hint : typeLookup (.type "zip") "__length_hint__" = pure none := by rw [typeLookup_type, builtinLookup_eq_fast]; kernel_rfl
end ZF
theorem call_list_zs {prog : Program} {w : World} {A : Around} {E : Value → Shared → Prop} {s : Shared} {h0 : Heap} {z TI TO i1 i2 a b : Addr} {xs ys : Array Value} {n : Nat} {x0 y0 : Value} {Q : Value → Shared → Prop} (hh : A.handled = none) (nx : xs.size = n) (ny : ys.size = n) (hn : n ≤ sizeLine)
    (L : ∀ S, S = s.heap.objs.size → ZL h0 (S + 1) z TI TO i1 i2 a b S) (hz : IsZs s.heap z TI TO .none (.bool false)) (hTI : IsTupOf2 s.heap TI (.ref i1) (.ref i2)) (hTO : IsTupOf2 s.heap TO x0 y0) (h1 : s.heap.IsTupleIter i1 a 0) (h2 : s.heap.IsTupleIter i2 b 0)
    (l1 : s.heap.IsTuple a xs) (l2 : s.heap.IsTuple b ys) (kp : ∀ c o, h0.get? c = some o → s.heap.get? c = some o)
    (hQ : ∀ h' tk c', h'.get? s.heap.objs.size = some { cls := .type "list", dict := none, data := .seq ((List.range n).map fun j => Value.ref (s.heap.objs.size + 1 + j)).toArray c', slots := #[] } → (∀ j, j < n → ∃ x y, xs[j]? = some x ∧ ys[j]? = some y ∧ IsTupOf2 h' (s.heap.objs.size + 1 + j) x y) →
        (∀ c o, h0.get? c = some o → h'.get? c = some o) → Q (.ref s.heap.objs.size) { s with heap := h', toks := tk }) :
    wpAny (model prog w) A (call (.type "list") [.ref z]) Q E s := by
  refine callType_codes (Q₁ := fun obj s₁ => obj = .ref s.heap.objs.size ∧ s₁ = { s with heap := s.heap.push { cls := .type "list", data := .seq #[] } }) F.called_list (F.typeCall_list_1 _) F.entry_list_init
    (code_list_new _ ⟨rfl, rfl⟩) fun obj s₁ h₁ => ?_
  obtain ⟨rfl, rfl⟩ := h₁
  have hS : (s.heap.push { cls := .type "list", data := .seq #[] }).get? s.heap.objs.size = some { cls := .type "list", data := .seq #[] } := Heap.get?_push_size _ rfl
  refine ⟨⟨_, hS, rfl⟩, F.args_list_init_2 _ _, ?_⟩
  have LS := L _ rfl
  show wpAny _ A.in1.in1 (do let old ← Builtin.List.listItems (.ref s.heap.objs.size); Builtin.List.listUpdate (.ref s.heap.objs.size) (fun _ => #[]); letGo old.toList.reverse; Builtin.List.listExtendWith (.ref s.heap.objs.size) (.ref z) .none) _ _ _
  refine wpAny_bind ?_
  unfold Builtin.List.listItems
  refine wpAny_bind (wpAny_seqItems hS rfl (wpAny_pure ?_))
  show wpAny _ A.in1.in1 (updateSeq s.heap.objs.size (fun _ => #[]) >>= fun _ => letGo (#[] : Array Value).toList.reverse >>= fun _ => Builtin.List.listExtendWith (.ref s.heap.objs.size) (.ref z) .none) _ _ _
  refine wpAny_bind (wpAny_updateSeq hS rfl ?_)
  have hS2 := Heap.get?_update_self (Obj.mapSeq (fun _ => (#[] : Array Value))) hS rfl
  refine wpAny_bind (wpAny_letGo ?_)
  unfold Builtin.List.listExtendWith
  have up : ∀ (h : Heap) (f : Obj → Obj), (∀ b o, s.heap.get? b = some o → h.get? b = some o) → ∀ b o, s.heap.get? b = some o → (h.update s.heap.objs.size f).get? b = some o := fun h f q b o e =>
    (Heap.get?_update_other _ _ (Ne.symm (Nat.ne_of_lt (Heap.lt_size e)))).trans (q b o e)
  have k1 : ∀ b o, s.heap.get? b = some o → (s.heap.push { cls := .type "list", data := .seq #[] }).get? b = some o := fun b o e => Heap.get?_push_of_some _ e
  have k2 := up _ (Obj.mapSeq (fun _ => (#[] : Array Value))) k1
  refine wpAny_bind (wpAny_typeOf (T := "zip") ⟨_, k2 _ _ hz, rfl⟩ ?_)
  have q1 : Builtin.List.listSameRef (.ref s.heap.objs.size) (.ref z) = false := by simp [Builtin.List.listSameRef, LS.Sz]
  have q2 : (Value.type "zip" == Value.type "list") = false := by decide
  have q3 : (Value.type "zip" == Value.type "tuple") = false := by decide
  simp only [q1, q2, q3, Bool.or_false, Bool.false_eq_true, if_false]
  refine wpAny_bind (iter_zs (k2 _ _ hz) ?_)
  refine wpAny_bind (wpAny_holding ?_)
  unfold Builtin.List.listLengthHint
  refine wpAny_bind (wpAny_specialOf (T := "zip") ⟨_, k2 _ _ hz, rfl⟩ ZF.no_len ?_)
  show wpAny _ A.in1.in1 (specialOf (Value.ref z) (Str.ofString "__length_hint__") >>= _) _ _ _
  refine wpAny_bind (wpAny_specialOf (T := "zip") ⟨_, k2 _ _ hz, rfl⟩ ZF.no_hint ?_)
  refine wpAny_pure ?_
  show wpAny _ A.in1.in1 (rule "list.extend.makes-room" >>= fun _ => Builtin.List.listTouch (.ref s.heap.objs.size) >>= fun _ =>
    again (.builtin "list.extend.loop" ⟨[.ref s.heap.objs.size, .ref z, .none], []⟩)) _ _ _
  refine wpAny_bind (wpAny_rule ?_)
  refine wpAny_bind ?_
  show wpAny _ A.in1.in1 (updateSeq s.heap.objs.size (·.push .none) >>= fun _ => updateSeq s.heap.objs.size (·.pop)) _ _ _
  refine wpAny_bind (wpAny_updateSeq hS2 rfl ?_)
  have hS3 := Heap.get?_update_self (Obj.mapSeq (·.push Value.none)) hS2 rfl
  have k3 := up _ (Obj.mapSeq (·.push Value.none)) k2
  refine wpAny_updateSeq (hz := by seq_fits) hS3 rfl ?_
  have hS4 := Heap.get?_update_self (Obj.mapSeq (·.pop)) hS3 rfl
  have k4 := up _ (Obj.mapSeq (·.pop)) k3
  refine wpAny_pure ⟨plainId_quiet F.plain_extend_loop _, ?_⟩
  refine ext_zs (show A.in1.handled = none from hh) LS nx ny hn _ n 0 _ #[] _ rfl (Nat.zero_le _) ⟨rfl, hS4, ?_, ⟨_, _, k4 _ _ hz, .inl ⟨rfl, rfl⟩⟩, k4 _ _ hTI, ⟨_, _, k4 _ _ hTO⟩, h1.at fun o e => k4 _ _ e, h2.at fun o e => k4 _ _ e, ?_, ?_, fun j hj => absurd hj (Nat.not_lt_zero _), fun c o e => k4 _ _ (kp _ _ e)⟩ fun h' tk c' e1 e2 e3 => ?_
  · rw [Nat.add_zero]
    simp only [Heap.size_update, Heap.size_push]
  · obtain ⟨o, ho, r⟩ := l1
    exact ⟨o, k4 _ _ ho, r⟩
  · obtain ⟨o, ho, r⟩ := l2
    exact ⟨o, k4 _ _ ho, r⟩
  · exact ⟨rfl, hQ h' tk c' e1 e2 e3⟩
end PF
-- part PfZ6
set_option Elab.async false
set_option linter.all false
set_option maxRecDepth 100000
set_option maxHeartbeats 4000000
namespace PF
open PySem PySem.Spec PyProof.Rows L2
/-- n new pairs from B on -/
def pH (H : Hp) (B : Nat) (f : Nat → V × V) : Nat → Hp
  | 0 => H
  | n + 1 => upd (pH H B f n) (B + n) (.tup [(f n).1, (f n).2])
theorem pH_at {H : Hp} {B : Nat} {f : Nat → V × V} : ∀ (n j : Nat), j < n → pH H B f n (B + j) = some (.tup [(f j).1, (f j).2])
  | n + 1, j, h => by
    by_cases e : j = n
    · subst e
      exact upd_same
    · exact (upd_ne (fun q => e (Nat.add_left_cancel q))).trans (pH_at n j (by omega))
theorem pH_ne {H : Hp} {B : Nat} {f : Nat → V × V} {b : Nat} : ∀ (n : Nat), (∀ j, j < n → b ≠ B + j) → pH H B f n b = H b
  | 0, _ => rfl
  | n + 1, h => (upd_ne (h n (Nat.lt_succ_self _))).trans (pH_ne n fun j hj => h j (Nat.lt_succ_of_lt hj))
def fxy (xs ys : List V) (j : Nat) : V × V := ((xs[j]?).getD .non, (ys[j]?).getD .non)
def tLz (K : PySem.W.Frag) (t : TA) : TE := fun σ H Q => t σ H fun vs H1 => ∃ (a b : Addr) (xs ys : List V), vs = [.ref a, .ref b] ∧ SqT K H1 a xs ∧ SqT K H1 b ys ∧ xs.length = ys.length ∧ xs.length ≤ 64 ∧
  ∀ (B : Nat) (S : Addr), (∀ j, H1 (B + j) = none) → H1 S = none → S < B → Q (.ref S) (upd (pH H1 B (fxy xs ys) xs.length) S (.lst ((List.range xs.length).map fun j => V.ref (B + j))))
theorem zl {h0 : Heap} (I a b : Nat) (hI : h0.objs.size = I) (h1 : a < I) (h2 : b < I) : ZL h0 (I + 5 + 1) (I + 4) (I + 2) (I + 3) I (I + 1) a b (I + 5) := by
  have D := sep2 I a b h1 h2
  constructor <;> first | exact D | (show (_ : Nat) < _; omega) | (rw [hI]; show I ≤ _; omega) | (refine PySem.W.neN ?_; omega)
theorem Rel2_refs (n : Nat) (f : Nat → Nat) : Vals ((List.range n).map fun j => V.ref (f j)) ((List.range n).map fun j => Value.ref (f j)) := by
  generalize List.range n = l
  induction l with
  | nil => exact .nil
  | cons a l ih => exact .cons rfl ih
theorem pe_lz {X : Cx} {e e2 tru : Expr} {ta : TA} {p pl kp pos pos2 : Pos} (hg : Gl X "zip") (hm : X.mg "zip" = none) (hg2 : Gl X "list") (hm2 : X.mg "list" = none) (hcalm : X.calm = true) (ha : PA X [e, e2] ta) (ht : PE X tru (tC (.bl true)))
    (hbt : backTo pos (starEach [e, e2] X.env) = (false, eval e X.env) :: backTo pos (starEach [e2] X.env) := by rfl) (hpl : (backTo pos (starEach [e, e2] X.env)).any (·.1) = false := by rfl) :
    PE X (.Call (.Name "list" pl) [.Call (.Name "zip" p) [e, e2] [⟨some "strict", tru, kp⟩] pos] [] pos2) (tLz X.K ta) := by
  refine ⟨fun pins s σ H Q I h => ?_⟩
  refine Call_ (ld_blt I hg2 hm2 (by decide +kernel : bootBuiltins "list" = some (.type "list")) (PyProof.Rows.callWith_type1 ?_ rfl rfl))
  refine spliced_more (wpAny_Call_Name_kw (ld_blt I hg hm PyProof.Rows.boot_zip (callWith_tyK (thn (ha.run pos pins s σ H _ I h) fun us s1 ⟨vs, H1, I1, r1, q1⟩ => ?_) hbt hpl rfl rfl) (by decide) (by decide)))
  obtain ⟨a, b, xs, ys, ex, hqx, hqy, hl, h64, q⟩ := q1
  subst ex
  cases r1 with
  | cons r rr =>
    cases rr with
    | cons r' rr =>
      cases rr
      cases r
      cases r'
      refine kwAll_cons (thn (ht.run pins s1 σ H1 (fun v H2 => v = .bl true ∧ H2 = H1) I1 ⟨rfl, rfl⟩) fun u s2 ⟨v, H2, I2, rv2, hv⟩ => kwAll_nil ?_)
      obtain ⟨rfl, rfl⟩ := hv
      obtain rfl : u = Value.bool true := rv2
      show wpAny _ _ (call (.type "zip") [.ref a, .ref b] [(Str.ofString "strict", .bool true)]) _ _ s2
      obtain ⟨its, rv, p1, _⟩ := I2.tuple hqx
      obtain ⟨its2, rv2, p2, _⟩ := I2.tuple hqy
      obtain ⟨o1, ho1, _⟩ := id p1
      obtain ⟨o2, ho2, _⟩ := id p2
      have la : a < s2.heap.objs.size := Heap.lt_size ho1
      have lb : b < s2.heap.objs.size := Heap.lt_size ho2
      refine call_zsT (show s2.heap.IsTuple a its.toArray from p1) (show s2.heap.IsTuple b its2.toArray from p2) fun h' hz hTI hTO h1 h2 hsz hk => spliced_none ?_
      have n1 : its.toArray.size = xs.length := by rw [List.size_toArray, rv.length]
      have n2 : its2.toArray.size = xs.length := by rw [List.size_toArray, hl, rv2.length]
      refine call_list_zs (s := { s2 with heap := h' }) (h0 := s2.heap) (n := xs.length) (I2.ok.hd hcalm) n1 n2 (Nat.le_trans h64 (by decide)) (fun S hS => ?_) hz hTI hTO h1 h2 ?_ ?_ hk fun h'' tk c' e1 e2 e3 => ?_
      · have hS : S = s2.heap.objs.size + 5 := by rw [hS]; exact hsz
        subst hS
        exact zl _ a b rfl la lb
      · obtain ⟨o, ho, r⟩ := p1
        exact ⟨o, hk _ _ ho, r⟩
      · obtain ⟨o, ho, r⟩ := p2
        exact ⟨o, hk _ _ ho, r⟩
      · have hsz' : ({ s2 with heap := h' } : Shared).heap.objs.size = s2.heap.objs.size + 5 := hsz
        rw [hsz'] at e1 e2 ⊢
        have fr : ∀ c, s2.heap.objs.size ≤ c → H2 c = none := fun c hc => I2.hok.fresh hc
        have pne : ∀ b, b ≠ s2.heap.objs.size + 5 → (∀ j, j < xs.length → b ≠ s2.heap.objs.size + 5 + 1 + j) → (upd (pH H2 (s2.heap.objs.size + 5 + 1) (fxy xs ys) xs.length) (s2.heap.objs.size + 5) (.lst ((List.range xs.length).map fun j => V.ref (s2.heap.objs.size + 5 + 1 + j)))) b = H2 b := fun b h1 h2 => (upd_ne h1).trans (pH_ne _ h2)
        have lt5 : ∀ c : Nat, c < s2.heap.objs.size → c ≠ s2.heap.objs.size + 5 ∧ ∀ j, c ≠ s2.heap.objs.size + 5 + 1 + j := fun c hc => ⟨by omega, fun j => by omega⟩
        have hq := q (s2.heap.objs.size + 5 + 1) (s2.heap.objs.size + 5) (fun j => fr _ (by omega)) (fr _ (by omega)) (Nat.lt_succ_self _)
        suffices I3 : Inv X pins σ (upd (pH H2 (s2.heap.objs.size + 5 + 1) (fxy xs ys) xs.length) (s2.heap.objs.size + 5) (.lst ((List.range xs.length).map fun j => V.ref (s2.heap.objs.size + 5 + 1 + j)))) { s2 with heap := h'', toks := tk } from ⟨.ref (s2.heap.objs.size + 5), _, I3, rfl, hq⟩
        refine inv_many (s := s2) (h' := h'') (t' := tk) I2 e3 (fun c u e => ?_) (fun c hn hne => ?_) (fun c u hn e => ?_)
        · have hc : c < s2.heap.objs.size := Nat.lt_of_not_le fun hc => by rw [fr c hc] at e; cases e
          exact (pne c (lt5 c hc).1 fun j _ => (lt5 c hc).2 j).trans e
        · refine Nat.le_of_not_lt fun hc => hne ?_
          exact (pne c (lt5 c hc).1 fun j _ => (lt5 c hc).2 j).trans hn
        · by_cases hc : c = s2.heap.objs.size + 5
          · subst hc
            rw [upd_same] at e
            cases e
            refine ⟨by rw [List.length_map, List.length_range]; exact Nat.le_trans h64 (by decide), (List.range xs.length).map fun j => Value.ref (s2.heap.objs.size + 5 + 1 + j), c', ?_, e1⟩
            exact Rel2_refs xs.length (fun j => s2.heap.objs.size + 5 + 1 + j)
          · have hj : ∃ j, j < xs.length ∧ c = s2.heap.objs.size + 5 + 1 + j := Classical.byContradiction fun hno => by
              rw [pne c hc fun j hj q => hno ⟨j, hj, q⟩, hn] at e
              cases e
            obtain ⟨j, hj, rfl⟩ := hj
            rw [upd_ne hc, pH_at _ _ hj] at e
            cases e
            obtain ⟨x, y, hx, hy, hT⟩ := e2 j hj
            obtain ⟨u, hu, ru⟩ := rv.get (List.getElem?_eq_getElem hj)
            obtain ⟨u2, hu2, ru2⟩ := rv2.get (List.getElem?_eq_getElem (hl ▸ hj))
            obtain rfl : u = x := by simpa [hu] using hx
            obtain rfl : u2 = y := by simpa [hu2] using hy
            refine ⟨by show 2 ≤ sizeLine; decide, [u, u2], .cons ?_ (.cons ?_ .nil), ⟨_, hT, rfl, _, rfl⟩⟩
            · show RelV ((xs[j]?).getD .non) u
              rw [List.getElem?_eq_getElem hj]
              exact ru
            · show RelV ((ys[j]?).getD .non) u2
              rw [List.getElem?_eq_getElem (hl ▸ hj)]
              exact ru2
end PF
-- part PfZ7
set_option Elab.async false
set_option linter.all false
set_option maxRecDepth 100000
set_option maxHeartbeats 4000000
namespace PF
open PySem PySem.Spec PyProof.Rows L2
section
variable {K : PySem.W.Frag} {σ : L2.St} {S H : Hp} {t : TA}
theorem pHgr {B : Nat} {f : Nat → V × V} (sS : Same S H) (h : ∀ j, H (B + j) = none) : ∀ n, Gr [] S H S (pH H B f n)
  | 0 => Gr.refl sS
  | n + 1 => (pHgr sS h n).trans (Gr.priv (pHgr sS h n).sh (by rw [pH_ne n fun j hj q => Nat.ne_of_lt hj (Nat.add_left_cancel q).symm]; exact h n))
theorem pairedR {α : Type} {Pp : Addr → α → Prop} (g : Nat → Addr) (l : List α) : ∀ (m : Nat), (∀ (j : Nat) (x : α), l[j]? = some x → Pp (g (m + j)) x) → Paired Pp ((List.range' m l.length).map g) l := by
  induction l with
  | nil => exact fun _ _ => .nil
  | cons a l ih => exact fun m h => .cons (h 0 a rfl) (ih (m + 1) fun j x e => by
      have := h (j + 1) x e
      rw [show m + 1 + j = m + (j + 1) by omega]
      exact this)
def rDictLP (K : PySem.W.Frag) : List V → Hp → VK → Prop := fun xs H Q => ∃ (a : Addr) (ps : List Addr) (kvs : List (Key × V)), xs = [.ref a] ∧ SqL K H a (ps.map V.ref) ∧ Paired (fun p kv => SqT K H p [kV kv.1, kv.2]) ps kvs ∧
    ∀ p, H p = none → Q (.ref p) (upd H p (.dK (mergeK [] kvs)))
theorem cr_dictLP {X : Cx} (hc : X.calm = true) : CallR X (.type "dict") (rDictLP X.K) := call_dictP hc
theorem gLzD {kvs : List (Key × V)} (h : GA t σ S fun S' vs => ∃ (a b : Addr), vs = [.ref a, .ref b] ∧ (∀ H, Same S' H → SqT K H a (kvs.map fun q => kV q.1)) ∧ (∀ H, Same S' H → SqT K H b (kvs.map (·.2)))) (hz : kvs.length ≤ 64) :
    Gv (tCB (rDictLP K) (tCons (tLz K t) tNil)) σ S (IsDK (mergeK [] kvs)) := fun S1 H a b Q q =>
  h S1 H a b _ fun vs S2 H2 g hv => by
    obtain ⟨ad, bd, rfl, hx, hy⟩ := hv
    have hl : (kvs.map fun q => kV q.1).length = kvs.length := List.length_map ..
    refine ⟨ad, bd, _, _, rfl, hx H2 g.sh, hy H2 g.sh, by rw [List.length_map, List.length_map], by rw [hl]; exact hz, fun B L hB hL hlt => ?_⟩
    have g2 := pHgr (f := fxy (kvs.map fun q => kV q.1) (kvs.map (·.2))) g.sh hB (kvs.map fun q => kV q.1).length
    have hne : pH H2 B (fxy (kvs.map fun q => kV q.1) (kvs.map (·.2))) (kvs.map fun q => kV q.1).length L = none := by
      rw [pH_ne _ fun j _ => Nat.ne_of_lt (Nat.lt_of_lt_of_le hlt (Nat.le_add_right _ _))]
      exact hL
    have g3 := g2.trans (Gr.priv (o := .lst ((List.range (kvs.map fun q => kV q.1).length).map fun j => V.ref (B + j))) g2.sh hne)
    refine ⟨L, (List.range kvs.length).map fun j => B + j, kvs, rfl, ?_, ?_, fun d hd => q _ _ _ ((g.trans g3).trans (Gr.new g3.sh hd)) ⟨d, rfl, upd_same⟩⟩
    · rw [List.map_map]
      refine SqL.of ?_
      rw [upd_same, hl]
      rfl
    · have := pairedR (Pp := fun p kv => SqT K (upd (pH H2 B (fxy (kvs.map fun q => kV q.1) (kvs.map (·.2))) (kvs.map fun q => kV q.1).length) L (.lst ((List.range (kvs.map fun q => kV q.1).length).map fun j => V.ref (B + j)))) p [kV kv.1, kv.2]) (fun j => B + j) kvs 0 fun j x e => SqT.of (by
        rw [Nat.zero_add, upd_ne (Nat.ne_of_gt (Nat.lt_of_lt_of_le hlt (Nat.le_add_right _ _)))]
        rw [pH_at _ j (by rw [hl]; exact (List.getElem?_eq_some_iff.mp e).1)]
        simp [fxy, e])
      rw [show List.range kvs.length = List.range' 0 kvs.length from List.range_eq_range']
      exact this
end
end PF
-- part PfT1
set_option Elab.async false
set_option linter.all false
set_option maxRecDepth 100000
set_option maxHeartbeats 4000000
namespace PF
open PySem PySem.Spec PyProof.Rows L2
theorem sc_told_loops : FnScope ["rules"] ["rules"] (defScope s_told_loops) := ⟨rfl, rfl, rfl, by decide +kernel, rfl, by decide +kernel, by decide +kernel⟩
def loopWs : List Str := ["stacked", "inner", "inner free", "forked", "branch", "fork free", "lone", "lone free", "open"]
section
variable {P : Program} {w : World} {K : PySem.W.Frag} {mg : Str → Option Value} {base : Heap}
theorem ok_told_loops {f la : Addr} {fd : FuncData} {k : Nat} (F : Fun K "told_loops" "told_loops" s_told_loops f fd) (B : BI mg) (mLoops : mg "LOOPS" = some (.ref la)) (hL : ∀ H, SqT K H la (loopWs.map V.str)) :
    FnOk P w K mg base CX0 (k + 1) f fd ["rules"] (spP R_told_loops) := by
  refine okP F sc_told_loops (fun S vs Post h => by obtain ⟨v, r, rfl, _⟩ := h; rfl) fun cdv A outer s H S vs Post Q E hr sS h q => ?_
  obtain ⟨v, r, rfl, hR, hok, rfl⟩ := h
  refine ⟨_, (pss_one (ps_ret (pe_callTy (cr_dictLP rfl) (by rfl) B.dict (by decide +kernel) (pa_cons (pe_lz (by rfl) B.zip (by rfl) B.list rfl (pa_cons (pe_glob (v := .ref la) (by rfl) mLoops rfl) (pa_cons (pe_ix (ix_seq : IxR _ (rIx K)) (pv 0) pe_int (fun _ _ => rfl)) pa_nil)) pe_bl) pa_nil)))), ?_⟩
  have hm : mergeK [] (toldK r) = toldK r := rfl
  rw [← hm]  at q
  refine sRet (gLzD (kvs := toldK r) (gaCons' (R := fun _ v => v = .ref la) (fun S1 H a b Q q => q _ S1 H (Gr.refl b) rfl) fun S1 x a hx => (ga1 (gRul3 (r := r) (gRul (hR.mono a)))).weak fun S2 vs e hv => ?_) (by show 9 ≤ 64; decide)) sS fun v S' H' g h => q v S' H' g h
  obtain ⟨y, rfl, hy⟩ := hv
  obtain ⟨p, xs, rfl, h1, h2⟩ := hy.tupE
  subst hx
  refine ⟨la, p, rfl, fun H _ => hL H, fun H b => SqT.of (b _ _ ?_)⟩
  rw [h1, h2.ints]
  have h9 := hok.n9
  match hl : r.loops, h9 with
  | [a1, a2, a3, a4, a5, a6, a7, a8, a9], _ => simp [toldK, hl]
end
end PF
-- part PfT2
set_option Elab.async false
set_option linter.all false
set_option maxRecDepth 100000
set_option maxHeartbeats 4000000
/-! a dict comprehension whose keys are tuples -/
namespace PF
open PySem PySem.Spec PyProof.Rows L2
section
variable {X : Cx}
/-- a dict is written, by a comprehension -/
theorem dset_P {pins : List (Addr × Obj)} {σ : L2.St} {H H' : Hp} {s : Shared} {E : Value → Shared → Prop} {D : Addr} {y z : V} {u r : Value} {Q : Unit → Shared → Prop} (hu : X.A.units + 1 < cLine) (I : Inv X pins σ H s) (g : DPut H D y z H') (ry : RelV y u) (rz : RelV z r)
    (q : ∀ s', Inv X pins σ H' s' → Q () s') : wpAny (model X.prog X.w) X.A (dictSet D u r) Q E s := by
  rcases g with ⟨kvs, k, e, rfl, l, rfl⟩ | ⟨kvs, k, b, e, rfl, eb, l, rfl⟩
  · exact d_dictSet I e l ry rz q
  · cases (show u = Value.ref b from ry)
    obtain ⟨len, nm, xs, rel, dd⟩ := dt_of I.hok e
    have l1 : xs.length ≤ sizeLine := (Paired.length rel) ▸ len
    have l2 : (putK kvs k z).length ≤ sizeLine := Nat.le_trans (length_putK kvs k z) l
    refine wpAny_dictSet_heap (show (tupleKind (mixKind X.prog X.w)).room X.A from Nat.lt_of_succ_lt hu) (key_of I.hok eb) dd (hsz := l1) fun h1 dn sb => q _ ?_
    obtain ⟨o, es, ep, eo, c1, c2, c3, _, c5⟩ := dn
    have kp := (rel.put k eb rz).keeps (H' := upd H D (.dT (putK kvs k z))) fun c ys ec => (upd_ne (ne_of ec e fun w => nomatch w)).trans ec
    exact d_write I (by rw [e]; exact True.intro) sb ⟨o, eo⟩ ⟨l2, nm, _, kp, o, es, ep, eo, c1, c2, c3, c5⟩
/-- {k: v for target in iter if ..}, the keys tuples -/
def tDct (wi : TI) (g : TG) (tt : TT) (tk tv : TE) (vs : List Nat) : TE := fun σ H Q => wi σ H fun J H1 => ∀ D, H1 D = none → ∃ W : Nat → Nat → Hp → Prop, (∃ m, W 0 m (upd H1 D (.dT []))) ∧ ∀ i m H, W i m H →
  (J.stop i H ∧ Q (.ref D) H) ∨ (J.go i H ∧ ∃ N : Hp → Prop, (∀ H', N H' → ∃ m', m' < m ∧ W (i + 1) m' H') ∧ ∀ x H', J.yld i H x H' → g x (wipe σ vs) H' fun σ2 H2 => wipe σ2 vs = wipe σ vs ∧
    tt σ2 H2 fun b H3 => if b = true then tk σ2 H3 fun y H4 => tv σ2 H4 fun z H5 => ∃ H6, DPut H5 D y z H6 ∧ N H6 else N H3)
theorem dct_core {pins : List (Addr × Obj)} {s : Shared} {σ : L2.St} {H : Hp} {Q : VK} {kx vx tg iter : Expr} {ifs : List Expr} {scope : Scope} {own : List (Str × Nat)} {pos pos' : Pos} {wi : TI} {g : TG} {tt : TT} {tk tv : TE} {use : Option (Value → Sem Unit)} {Qf : Value → Shared → Prop}
    (hu : X.A.units + 1 < cLine) (hc : X.calm = true) (nd : X.N.Nodup) (I : Inv X pins σ H s) (hi : PI X tg iter wi) (ok : BlkOk X.N X.env.scope scope own)
    (pg : ∀ (t : Shared) (J : Hp) (C : Addr) (cl : List (Str × Addr)) (ch : List Addr), PG (X.blk t J scope (compEnvC scope cl C X.env) ch) tg g)
    (pt : ∀ (t : Shared) (J : Hp) (C : Addr) (cl : List (Str × Addr)) (ch : List Addr), PTs (X.blk t J scope (compEnvC scope cl C X.env) ch) ifs tt)
    (pk : ∀ (t : Shared) (J : Hp) (C : Addr) (cl : List (Str × Addr)) (ch : List Addr), PE (X.blk t J scope (compEnvC scope cl C X.env) ch) kx tk)
    (pv' : ∀ (t : Shared) (J : Hp) (C : Addr) (cl : List (Str × Addr)) (ch : List Addr), PE (X.blk t J scope (compEnvC scope cl C X.env) ch) vx tv) (fo : ∀ x, foldedSetIterable iter X.env x = pure x)
    (h : tDct wi g tt tk tv (own.map (·.2)) σ H Q)
    (fin' : ∀ D C t m G, Inv X pins σ G t → Q (.ref D) G → t.heap.Ns C m → FpOk X pins G C → compPost (model X.prog X.w) X.A X.xe use Qf (.ref D) C (.ok .next) t) :
    wpAny (model X.prog X.w) X.A (comprehension (.DictComp kx vx [⟨tg, iter, ifs, 0⟩] scope pos) scope X.env pos' newDict false (eval iter X.env) use) Qf X.xe s := by
  have fr : ∀ p ∈ scope.names, p.2 = .free → ∃ c, X.env.cells.lookup p.1 = some c := fun p hp e =>
    (ok.free p hp e).elim (fun m => I.ok.has _ (.inl m)) fun m => I.ok.has _ (.inr m)
  refine wpAny_comprehension_free (use := use) rfl fo (closure_ok fr) ok.kind (fun p hp e => by rw [ok.uniq p hp, e]) (thn (hi.run pins s σ H _ I h) fun xv s1 hx => thn hx fun iv s2 h2 => ?_)
  obtain ⟨it, ch, tn, J, H2, rfl, I2, T, st2, f2, q⟩ := h2
  refine wpAny_newObj_type (newEnv_comp ?_)
  obtain ⟨D, hD⟩ : ∃ D, s2.heap.objs.size = D := ⟨_, rfl⟩
  rw [hD]
  have fD : H2 D = none := I2.hok.fresh (by rw [hD]; exact Nat.le_refl _)
  obtain ⟨W, ⟨m0, w0⟩, turn⟩ := q D fD
  obtain ⟨s3, e3⟩ : ∃ s3 : Shared, { s2 with heap := s2.heap.push { cls := .type "dict", data := .dict #[] } } = s3 := ⟨_, rfl⟩
  have k3 : s3.heap = s2.heap.push { cls := .type "dict", data := .dict #[] } := by rw [← e3]
  obtain ⟨H3, eH⟩ : ∃ H3, upd H2 D (.dT []) = H3 := ⟨_, rfl⟩
  rw [eH] at w0
  have I3 : Inv X pins σ H3 s3 := by
    rw [← e3, ← eH]
    refine I2.laid (t' := s2.toks) (fun b o e => Heap.get?_push_of_some _ e) (by rw [hD]; exact Nat.le_refl _) ?_
    have := dt_empty (P := X.prog) (w := X.w) (H := upd H2 D (.dT [])) s2.heap I2.big
    rw [hD] at this
    exact this
  have f3 : ∀ b ∈ ch, FpOk X pins H3 b ∧ b < s3.heap.objs.size := fun b hb => by
    obtain ⟨o, e, _⟩ := T.obj _ _ st2 b hb
    have lt := Heap.lt_size e
    refine ⟨⟨?_, (f2 b hb).2⟩, by rw [k3, Heap.size_push]; exact Nat.lt_succ_of_lt lt⟩
    rw [← eH, upd_ne (Nat.ne_of_lt (by rw [← hD]; exact lt))]
    exact (f2 b hb).1
  have st3 : tn 0 s3.heap := T.keep _ _ _ st2 fun b _ o e => by rw [k3]; exact Heap.get?_push_of_some _ e
  have I4 := block_start I3 ok nd f3
  have zg := pg s3 H3 s3.heap.objs.size (cellsFrom (s3.heap.objs.size + 1) scope.names (cloFrom X.env.cells scope.names [])) ch
  have zt := pt s3 H3 s3.heap.objs.size (cellsFrom (s3.heap.objs.size + 1) scope.names (cloFrom X.env.cells scope.names [])) ch
  have zk := pk s3 H3 s3.heap.objs.size (cellsFrom (s3.heap.objs.size + 1) scope.names (cloFrom X.env.cells scope.names [])) ch
  have zv := pv' s3 H3 s3.heap.objs.size (cellsFrom (s3.heap.objs.size + 1) scope.names (cloFrom X.env.cells scope.names [])) ch
  rw [show ({ s2 with heap := s2.heap.push { cls := .type "dict", data := .dict #[] } } : Shared) = s3 from e3]
  have cE : (compEnvC scope (cellsFrom (s3.heap.objs.size + 1) scope.names (cloFrom X.env.cells scope.names [])) s3.heap.objs.size X.env).locals = s3.heap.objs.size := rfl
  show codeAny _ _ (.compStart (.DictComp kx vx [⟨tg, iter, ifs, 0⟩] scope pos) 0 (.ref it) (.ref D) (compEnvC scope (cellsFrom (s3.heap.objs.size + 1) scope.names (cloFrom X.env.cells scope.names [])) s3.heap.objs.size X.env)) (compPost (model X.prog X.w) X.A X.xe use Qf (.ref D) s3.heap.objs.size) { s3 with heap := pushCells (s3.heap.push { cls := .type "dict", data := .dict #[] }) scope.names }
  generalize compEnvC scope (cellsFrom (s3.heap.objs.size + 1) scope.names (cloFrom X.env.cells scope.names [])) s3.heap.objs.size X.env = ce at *
  obtain ⟨s4, e4⟩ : ∃ s4 : Shared, { s3 with heap := pushCells (s3.heap.push { cls := .type "dict", data := .dict #[] }) scope.names } = s4 := ⟨_, rfl⟩
  rw [e4] at I4 ⊢
  have st4 : tn 0 s4.heap := T.keep _ _ _ st3 fun b _ o e => by rw [← e4]; exact pushCells_keeps _ _ _ _ (Heap.get?_push_of_some _ e)
  have stay : ∀ {σ' : L2.St} {H' : Hp} {s' : Shared}, Inv (X.blk s3 H3 scope ce ch) [] σ' H' s' → (∀ b ∈ ch, H' b = none) → ∀ b ∈ ch, FpOk (X.blk s3 H3 scope ce ch) [] H' b := fun {σ' H' s'} z n b hb =>
    ⟨n b hb, (z.ok.exf b hb).1, z.ok.exfs b hb, .inl hb, fun x c e => (z.ok.exf b hb).2 x c e, fun p hp => absurd (show p ∈ ([] : List (Addr × Obj)) ++ [] from hp) (by simp)⟩
  have loop : codeAny (model X.prog X.w) X.A (.compLoop (.DictComp kx vx [⟨tg, iter, ifs, 0⟩] scope pos) 0 (.ref it) (.ref D) ce) (compPost (model X.prog X.w) X.A X.xe use Qf (.ref D) s3.heap.objs.size) s4 := by
    refine compLoop_anyD (fun n t => ∃ i G, Inv (X.blk s3 H3 scope ce ch) [] (wipe σ (own.map (·.2))) G t ∧ tn i t.heap ∧ (∀ b ∈ ch, G b = none) ∧ W i n G) ?_ m0 ⟨0, H3, I4, st4, fun b hb => (f3 b hb).1.1, w0⟩
    rintro n s5 ⟨i, H5, I5, st5, n5, w5⟩
    rcases turn i n H5 w5 with ⟨stop, done⟩ | ⟨go, N, hN, step⟩
    · refine thnF (T.done (X.blk s3 H3 scope ce ch) rfl rfl rfl hc i [] s5 _ H5 (fun _ _ => False) I5 (stay I5 n5) st5 stop) fun r s6 ⟨hr, I6⟩ => ?_
      subst hr
      have I7 : Inv X pins σ H5 s6 := I3.call' (ch := ch) I6.os I6.base I6.hok I6.bare fun b hb => by
        obtain ⟨_, a1, a2, a3, a4, a5⟩ := (f3 b hb).1
        exact ⟨a3, a1, a4, a5⟩
      have nC : H5 s3.heap.objs.size = none := by
        have z : H5 ce.locals = none := I6.free
        rw [cE] at z
        exact z
      obtain ⟨m, hn, _⟩ := I6.loc
      have hn : s6.heap.Ns ce.locals m := hn
      rw [cE] at hn
      exact fin' D s3.heap.objs.size s6 m H5 I7 done hn (I3.fpOk (Nat.le_refl _) nC)
    · refine thnF (T.item (X.blk s3 H3 scope ce ch) rfl rfl rfl hc i [] s5 _ H5 (fun _ _ => False) I5 (stay I5 n5) st5 go) fun r s6 ⟨u, hr, h6⟩ => ?_
      subst hr
      refine thnF h6 fun _ s7 ⟨x, H7, I7, r7, y7, st7, n7⟩ => ?_
      refine thnF (zg.run _ s7 _ H7 x u _ (I7.pinned (stay I7 n7) (T.obj _ _ st7)) r7 (step x H7 y7)) fun _ s8 ⟨σ8, H8, I8, hw8, q8⟩ => ?_
      refine thnF (zt.run _ s8 σ8 H8 _ I8 q8) fun b s9 ⟨H9, I9, q9⟩ => ?_
      have fin : ∀ {t : Shared} {G : Hp}, Inv (X.blk s3 H3 scope ce ch) ([] ++ pinsAt ch s7.heap) σ8 G t → N G → ∃ m, m < n ∧ ∃ i G, Inv (X.blk s3 H3 scope ce ch) [] (wipe σ (own.map (·.2))) G t ∧ tn i t.heap ∧ (∀ b ∈ ch, G b = none) ∧ W i m G := fun {t G} z nx => by
        obtain ⟨m', lt, w'⟩ := hN G nx
        have pin : ∀ b ∈ ch, ∀ o, s7.heap.get? b = some o → t.heap.get? b = some o ∧ G b = none := fun b hb o e => by
          obtain ⟨p1, p2, _⟩ := z.pin (b, o) (List.mem_append_right _ (List.mem_append_right _ (mem_pinsAt hb e)))
          exact ⟨p1, p2⟩
        refine ⟨m', lt, i + 1, G, (z.unpinned (pins := [])).weak (by rw [← hw8, wipe_length]) (fun j v e => ?_), T.keep _ _ _ st7 fun b hb o e => (pin b hb o e).1, fun b hb => ?_, w'⟩
        · rw [← hw8] at e
          exact (wipe_some e).1
        · obtain ⟨o, e, _⟩ := T.obj _ _ st7 b hb
          exact (pin b hb o e).2
      cases b with
      | false =>
        rw [if_neg Bool.false_ne_true] at q9 ⊢
        exact fin I9 q9
      | true =>
        rw [if_pos rfl] at q9 ⊢
        refine thnF (zk.run _ s9 σ8 H9 _ I9 q9) fun kv s10 ⟨yk, H10, I10, r10, q10⟩ => ?_
        refine thnF (zv.run _ s10 σ8 H10 _ I10 q10) fun vv s11 ⟨yv, H11, I11, r11, H12, put, nx⟩ => ?_
        exact dset_P (X := X.blk s3 H3 scope ce ch) hu I11 put r10 r11 fun s12 I12 => fin I12 nx
  exact codeAny_compStart_dict loop (T.self X.A 0 _ _ _ st4 loop)
/-- as a value -/
theorem pe_dct {kx vx tg iter : Expr} {ifs : List Expr} {scope : Scope} {own : List (Str × Nat)} {pos : Pos} {wi : TI} {g : TG} {tt : TT} {tk tv : TE} (hu : X.A.units + 1 < cLine) (hc : X.calm = true) (nd : X.N.Nodup) (hi : PI X tg iter wi) (ok : BlkOk X.N X.env.scope scope own)
    (pg : ∀ (t : Shared) (J : Hp) (C : Addr) (cl : List (Str × Addr)) (ch : List Addr), PG (X.blk t J scope (compEnvC scope cl C X.env) ch) tg g)
    (pt : ∀ (t : Shared) (J : Hp) (C : Addr) (cl : List (Str × Addr)) (ch : List Addr), PTs (X.blk t J scope (compEnvC scope cl C X.env) ch) ifs tt)
    (pk : ∀ (t : Shared) (J : Hp) (C : Addr) (cl : List (Str × Addr)) (ch : List Addr), PE (X.blk t J scope (compEnvC scope cl C X.env) ch) kx tk)
    (pv' : ∀ (t : Shared) (J : Hp) (C : Addr) (cl : List (Str × Addr)) (ch : List Addr), PE (X.blk t J scope (compEnvC scope cl C X.env) ch) vx tv) (fo : ∀ x, foldedSetIterable iter X.env x = pure x := by intro _; rfl) :
    PE X (.DictComp kx vx [⟨tg, iter, ifs, 0⟩] scope pos) (tDct wi g tt tk tv (own.map (·.2))) := by
  refine ⟨fun pins s σ H Q I h => ?_⟩
  rw [arm_eval_DictComp]
  refine dct_core hu hc nd I hi ok pg pt pk pv' fo h fun L C t m G I' q ns f => ⟨m, ns, fun h3 sb3 => ?_⟩
  obtain ⟨f0, f1, f2, f3, f4, f5⟩ := f
  exact ⟨.ref L, G, I'.turned (t' := t.toks) (fun b o hb e => (sb3.2 b hb).trans e) f0 f1 f3 f4 f5, rfl, q⟩
end
end PF
-- part PfT3
set_option Elab.async false
set_option linter.all false
set_option maxRecDepth 100000
set_option maxHeartbeats 4000000
namespace PF
open PySem PySem.Spec PyProof.Rows L2
section
variable {K : PySem.W.Frag} {σ : L2.St} {S H : Hp} {tl te tk tv : TE} {tt : TT} {ta : TA} {g : TG} {vs : List Nat} {v : V}
theorem LcI.turnS {α : Type} {l : List α} {p : α → Bool} {f : α → PyData} {Dl : Addr} {S2 H2 S' H' : Hp} {i : Nat} {x : α} {acc : List V} (gr : Gr [Dl] S2 (upd H2 Dl (.lst [])) S' H') (n : S' Dl = none) (e : H' Dl = some (.lst acc)) (hacc : DDs S' acc (((l.take i).filter p).map f)) (hx : l[i]? = some x)
    (hz : l.length ≤ sizeLine) (hs : Turn1 σ vs g tt te S' v (p x) (f x)) :
    g v (wipe σ vs) H' fun σ2 H2' => wipe σ2 vs = wipe σ vs ∧ tt σ2 H2' fun b H3 => if b = true then te σ2 H3 fun y H4 => ∃ acc, H4 Dl = some (.lst acc) ∧ acc.length < sizeLine ∧ LcI l p f Dl S2 H2 (i + 1) (upd H4 Dl (.lst (acc ++ [y]))) else LcI l p f Dl S2 H2 (i + 1) H3 := by
  obtain ⟨σ2, hg, hw, ht, he⟩ := hs
  refine hg H' _ gr.sh ⟨hw, ht.run gr.sh fun S3 H3 g3 => ?_⟩
  have n3 := g3.hide n e
  have e3 := g3.same _ _ e
  have hl : acc.length < sizeLine := by
    have h1 := hacc.len
    rw [List.length_map] at h1
    have h2 := List.length_filter_le p (l.take i)
    have h3 : (l.take i).length ≤ i := by rw [List.length_take]; omega
    have h4 := (List.getElem?_eq_some_iff.mp hx).1
    omega
  cases hb : p x with
  | true =>
    refine iteT ((he hb).mono g3.ss |>.run g3.sh fun y S4 H4 g4 hy => ?_)
    have n4 := g4.hide n3 e3
    have e4 := g4.same _ _ e3
    refine ⟨acc, e4, hl, S4, acc ++ [y], ((gr.trans g3.up0).trans g4.up0).put (by simp) n4, n4, upd_same, ?_⟩
    rw [take_filter hx, if_pos hb]
    exact ((hacc.mono g3.ss).mono g4.ss).snoc hy
  | false =>
    refine iteF ⟨S3, acc, gr.trans g3.up0, n3, e3, ?_⟩
    rw [take_filter hx, if_neg (by rw [hb]; exact Bool.false_ne_true), List.append_nil]
    exact hacc.mono g3.ss
/-- [.. for x, y in zip(xs, ys, strict=True)], two lists of one length -/
theorem gLcZ {α β : Type} (l : List α) (m : List β) (enc : α → PyData) (enc2 : β → PyData) (f : α × β → PyData) (hlen : l.length = m.length) (hz : l.length ≤ sizeLine)
    (ha : GA ta σ S fun S' us => ∃ a b, us = [a, b] ∧ DD S' a (.list (l.map enc)) ∧ DD S' b (.list (m.map enc2)))
    (hs : ∀ p, p ∈ l.zip m → ∀ u S1, Same S S1 → DD S1 u (.tuple [enc p.1, enc2 p.2]) → Turn1 σ vs g tt te S1 u true (f p)) : GD (tLc (iZs K ta) g tt te vs) σ S (.list ((l.zip m).map f)) := fun S1 H a b Q q =>
  ha S1 H a b _ fun us S2 H2 g2 hu => by
    obtain ⟨x, y, rfl, hx, hy⟩ := hu
    obtain ⟨A, xs, rfl, h1, h2⟩ := hx.lstE
    obtain ⟨B, ys, rfl, k1, k2⟩ := hy.lstE
    have lz : (l.zip m).length = l.length := by rw [List.length_zip, hlen, Nat.min_self]
    refine ⟨A, B, xs, ys, rfl, SqL.of (g2.sh _ _ h1), SqL.of (g2.sh _ _ k1), fun Dl hD => ?_⟩
    refine ⟨fun i mm H => mm = l.length - i ∧ i ≤ l.length ∧ LcI (l.zip m) (fun _ => true) f Dl S2 H2 i H, ⟨_, rfl, Nat.zero_le _, LcI.start g2.sh hD⟩, ?_⟩
    rintro i mm H' ⟨rfl, hi, hp⟩
    obtain ⟨S', acc, gr, n, e, hacc⟩ := hp
    have sA : SqL K H' A xs := SqL.of (gr.sh _ _ (gr.ss _ _ h1))
    have sB : SqL K H' B ys := SqL.of (gr.sh _ _ (gr.ss _ _ k1))
    by_cases hlt : i < l.length
    · have e1 : l[i]? = some l[i] := List.getElem?_eq_getElem hlt
      have e2 : m[i]? = some (m[i]'(hlen ▸ hlt)) := List.getElem?_eq_getElem _
      have ez : (l.zip m)[i]? = some (l[i], m[i]'(hlen ▸ hlt)) := by
        rw [List.getElem?_zip_eq_some]
        exact ⟨e1, e2⟩
      obtain ⟨u1, eu1, hu1⟩ := h2.at (i := i) (d := enc l[i]) (by rw [List.getElem?_map, e1]; rfl)
      obtain ⟨u2, eu2, hu2⟩ := k2.at (i := i) (d := enc2 (m[i]'(hlen ▸ hlt))) (by rw [List.getElem?_map, e2]; rfl)
      refine .inr ⟨⟨xs, ys, u1, u2, sA, sB, eu1, eu2⟩, fun H' => LcI (l.zip m) (fun _ => true) f Dl S2 H2 (i + 1) H', fun H' p' => ⟨l.length - (i + 1), by omega, rfl, hlt, p'⟩, fun w H'' y => ?_⟩
      obtain ⟨T, x1, x2, rfl, hT, rfl, q1, q2⟩ := y
      have := (q1 xs sA).symm.trans eu1
      obtain rfl : x1 = u1 := Option.some.inj this
      have := (q2 ys sB).symm.trans eu2
      obtain rfl : x2 = u2 := Option.some.inj this
      have ne : Dl ≠ T := fun z => by rw [z, hT] at e; cases e
      have nT : S' T = none := gr.sh.free hT
      have su : Same S' (upd S' T (.tup [x1, x2])) := same_upd' nT
      refine LcI.turnS (gr.trans (Gr.new gr.sh hT).up0) (by rw [upd_ne ne]; exact n) (by rw [upd_ne ne]; exact e) (hacc.mono su) ez (by rw [lz]; exact hz) (hs _ (List.mem_of_getElem? ez) (.ref T) _ (((a.trans g2.ss).trans gr.ss).trans su) ?_)
      exact .tup upd_same (.cons ((hu1.mono gr.ss).mono su) (.cons ((hu2.mono gr.ss).mono su) .nil))
    · have e' : i = l.length := by omega
      refine .inl ⟨⟨xs, ys, sA, sB, by rw [h2.len, List.length_map, e'], by rw [k2.len, List.length_map, e', hlen]⟩, ?_⟩
      have := LcI.done (Q := Q) (n := i) (p := fun _ => true) (l := l.zip m) (f := f) (Dl := Dl) (S2 := S2) (H2 := H2) (H' := H') (S1 := S1) (H := H) ⟨S', acc, gr, n, e, hacc⟩ (by rw [lz]; exact e') g2 hD
      rw [filter_tt] at this
      exact this q
theorem dct_list {a : Addr} {xs : List V} {H1 : Hp} {D : Addr} {Qd : Hp → Prop} (Pv : Nat → Hp → Prop) (h0 : Pv 0 (upd H1 D (.dT []))) (hl : ∀ i H, i ≤ xs.length → Pv i H → SqL K H a xs)
    (hs : ∀ i x H, xs[i]? = some x → Pv i H → g x (wipe σ vs) H fun σ2 H2 => wipe σ2 vs = wipe σ vs ∧ tt σ2 H2 fun b H3 => if b = true then tk σ2 H3 fun y H4 => tv σ2 H4 fun z H5 => ∃ H6, DPut H5 D y z H6 ∧ Pv (i + 1) H6 else Pv (i + 1) H3) (hd : ∀ H, Pv xs.length H → Qd H) :
    ∃ W : Nat → Nat → Hp → Prop, (∃ m, W 0 m (upd H1 D (.dT []))) ∧ ∀ i m H, W i m H → ((Itl K a).stop i H ∧ Qd H) ∨ ((Itl K a).go i H ∧ ∃ N : Hp → Prop, (∀ H', N H' → ∃ m', m' < m ∧ W (i + 1) m' H') ∧ ∀ x H', (Itl K a).yld i H x H' →
      g x (wipe σ vs) H' fun σ2 H2 => wipe σ2 vs = wipe σ vs ∧ tt σ2 H2 fun b H3 => if b = true then tk σ2 H3 fun y H4 => tv σ2 H4 fun z H5 => ∃ H6, DPut H5 D y z H6 ∧ N H6 else N H3) := by
  refine ⟨fun i m H => m = xs.length - i ∧ i ≤ xs.length ∧ Pv i H, ⟨_, rfl, Nat.zero_le _, h0⟩, fun i m H hw => ?_⟩
  obtain ⟨rfl, hi, hp⟩ := hw
  have sq := hl i H hi hp
  rcases Nat.lt_or_ge i xs.length with lt | ge
  · refine .inr ⟨⟨xs, xs[i], sq, List.getElem?_eq_getElem lt⟩, Pv (i + 1), fun H' hp' => ⟨_, by omega, rfl, lt, hp'⟩, fun x H' y => ?_⟩
    obtain ⟨rfl, ex⟩ := y
    exact hs i x _ (ex xs sq) hp
  · obtain rfl : i = xs.length := Nat.le_antisymm hi ge
    exact .inl ⟨⟨xs, sq, Nat.le_refl _⟩, hd H hp⟩
theorem putK_new {kvs : Kvs} {k : List Key} {x : V} (h : valV kvs k = none) : putK kvs k x = kvs ++ [(k, x)] := by
  unfold putK
  rw [if_neg]
  intro z
  rw [valV_any, h] at z
  cases z
theorem gDct {T : Tb} {ks : List Ky} (hl : GD tl σ S (rowsD ks T)) (nd : ks.Nodup) (hz : ks.length ≤ 1000)
    (hs : ∀ k ∈ ks, ∀ u S1, Same S S1 → DD S1 u (eRow k (T k)) → ∃ σ2, (∀ H Q, Same S1 H → Q σ2 H → g u (wipe σ vs) H Q) ∧ wipe σ2 vs = wipe σ vs ∧ GT tt σ2 S1 true ∧ GD tk σ2 S1 (eKy k) ∧ GD tv σ2 S1 (oD (T k))) :
    Gv (tDct (iList K tl) g tt tk tv vs) σ S (IsDT (rowsK ks T)) := fun S1 H a b Q q =>
  hl S1 H a b _ fun x S2 H2 g2 hx => by
    obtain ⟨A, xs, rfl, h1, h2⟩ := hx.lstE
    refine ⟨A, rfl, ⟨xs, SqL.of (g2.sh _ _ h1)⟩, fun Dl hD => ?_⟩
    refine dct_list (xs := xs) (fun i H' => ∃ S', Gr [Dl] S2 (upd H2 Dl (.dT [])) S' H' ∧ S' Dl = none ∧ H' Dl = some (.dT (rowsK (ks.take i) T))) ⟨S2, Gr.refl (Gr.priv g2.sh hD).sh, g2.sh.free hD, upd_same⟩ (fun i H' _ hp => ?_) (fun i x H' hx hp => ?_) fun H' hp => ?_
    · obtain ⟨S', gr, _⟩ := hp
      exact SqL.of (gr.sh _ _ (gr.ss _ _ h1))
    · obtain ⟨S', gr, n, e⟩ := hp
      obtain ⟨d, hd, hv⟩ := h2.get hx
      obtain ⟨k, hk, rfl⟩ := map_get hd
      have hm : k ∈ ks := List.mem_of_getElem? hk
      obtain ⟨σ2, hg, hw, ht, hkk, hvv⟩ := hs k hm x S' ((a.trans g2.ss).trans gr.ss) (hv.mono gr.ss)
      refine hg H' _ gr.sh ⟨hw, ht.run gr.sh fun S3 H3 g3 => iteT ((hkk.mono g3.ss).run g3.sh fun y S4 H4 g4 hy => (hvv.mono (g3.ss.trans g4.ss)).run g4.sh fun w S5 H5 g5 hw5 => ?_)⟩
      obtain ⟨kb, ys, rfl, b1, b2⟩ := hy.tupE
      obtain rfl : ys = (kyL k).map kV := DDs.keys (k := kyL k) b2
      obtain rfl := oD_V hw5
      have n3 := g3.hide n e
      have e3 := g3.same _ _ e
      have n4 := g4.hide n3 e3
      have e4 := g4.same _ _ e3
      have n5 := g5.hide n4 e4
      have e5 := g5.same _ _ e4
      have hi := (List.getElem?_eq_some_iff.mp hk).1
      have hni : k ∉ ks.take i := fun z => by
        obtain ⟨j, hj, ej⟩ := List.mem_iff_getElem.mp z
        rw [List.length_take] at hj
        rw [List.getElem_take] at ej
        have := nd_ix nd (show ks[j]? = some k by rw [List.getElem?_eq_getElem (by omega), ej]) hk
        omega
      have hput : putK (rowsK (ks.take i) T) (kyL k) (oV (T k)) = rowsK (ks.take (i + 1)) T := by
        rw [putK_new (by rw [valV_rows, if_neg hni]), List.take_add_one, hk]
        unfold rowsK
        rw [List.map_append]
        rfl
      refine ⟨_, DPut.t e5 (g5.sh _ _ (g5.ss _ _ b1)) ?_, S5, ?_, n5, ?_⟩
      · unfold rowsK
        rw [List.length_map, List.length_take]
        exact Nat.lt_of_le_of_lt (show _ ≤ 1000 by omega) (by decide)
      · exact (((gr.trans g3.up0).trans g4.up0).trans g5.up0).put (by simp) n5
      · rw [upd_same, hput]
    · obtain ⟨S', gr, n, e⟩ := hp
      rw [h2.len, List.length_map, List.take_length] at e
      exact q _ _ _ (g2.trans ((Gr.over1 (Gr.priv g2.sh hD) gr hD).tell hD n e)) ⟨Dl, rfl, upd_same⟩
end
end PF
-- part PfT4
set_option Elab.async false
set_option linter.all false
set_option maxRecDepth 100000
set_option maxHeartbeats 4000000
namespace PF
open PySem PySem.Spec PyProof.Rows L2
theorem sc_lets_bounds : FnScope ["rules", "string", "thing", "keys", "row", "key", "known", "kind", "first", "last", "worth", "way"] ["rules", "string", "thing"] (defScope s_lets_bounds) := ⟨rfl, rfl, rfl, by decide +kernel, rfl, by decide +kernel, by decide +kernel⟩
section
variable {P : Program} {w : World} {K : PySem.W.Frag} {mg : Str → Option Value} {base : Heap} {S : Hp} {σ : L2.St}
def R_lets : Hp → List V → (Hp → V → Prop) → Prop := fun S vs Post => ∃ (v tv : V) (r : Rl) (z : Str) (ks : List Ky) (T : Tb), vs = [v, .str z, tv] ∧ RulesAt S v r ∧ RlOk r ∧ ZOk z ∧ ks.Perm (keysL (z.length : Int)) ∧ DD S tv (rowsD ks T) ∧
  Post = fun S' x => ∃ b, x = .bl b ∧ (b = true → Sound (gOf r z) (Tr T ks))
theorem ok_lets_bounds {f : Addr} {fd : FuncData} {k : Nat} (F : Fun K "lets_bounds" "lets_bounds" s_lets_bounds f fd) (B : BI mg) (c_row_keys : Ok P w K mg base "row_keys" ["many"] 1 (spP R_row_keys)) (c_is_row : Ok P w K mg base "is_row" ["thing", "key"] 2 (spP R_is_row))
    (c_is_no_more : Ok P w K mg base "is_no_more" ["worth", "found"] 1 (spP R_is_no_more)) (c_come_to : Ok P w K mg base "come_to" ["way", "known"] 1 (spP R_come_to)) (c_ways_of : Ok P w K mg base "ways_of" ["rules", "string", "key"] 4 (spP R_ways_of)) (hk : 4 ≤ k) :
    FnOk P w K mg base CX0 (k + 1) f fd ["rules", "string", "thing"] (spP R_lets) := by
  refine okP F sc_lets_bounds (fun S vs Post h => by obtain ⟨v, tv, r, z, ks, T, rfl, _⟩ := h; rfl) fun cdv A outer s H S vs Post Q E hr sS h q => ?_
  obtain ⟨v, tv, r, z, ks, T, rfl, hR, ok, zk, hp, htv, rfl⟩ := h
  refine ⟨_, (pss_cons (ps_set (i := 3) sc_lets_bounds.nd rfl (by first | exact .inl rfl | exact .inr rfl) (pe_ok c_row_keys (hr.mono (by omega)) (by rfl) (pa_cons (pe_callB (call_lenA : CallR _ _ (rLenA K)) (by rfl) B.len (by decide +kernel) (pa_cons (pv 1) pa_nil)) pa_nil)))
      (pss_cons (ps_if (PW.pt (pw_or (pt_not (pt_val (pe_callB (call_isi : CallR _ _ (rIsi K)) (by rfl) B.isinstance (by decide +kernel) (pa_cons (pv 2) (pa_cons (pe_bltn (v := .ty "list") (by rfl) B.list (by decide +kernel) rfl) pa_nil))))) (pw_or1 (pt_cmpR (op_neD hr.units : OpR _ _ (rNeD K)) (pe_callB (call_lenA : CallR _ _ (rLenA K)) (by rfl) B.len (by decide +kernel) (pa_cons (pv 2) pa_nil)) (pe_callB (call_lenA : CallR _ _ (rLenA K)) (by rfl) B.len (by decide +kernel) (pa_cons (pv 3) pa_nil)) (nomark _))))) (pss_one (ps_ret pe_bl)) pss_nil)
      (pss_cons (ps_if (pt_not (pt_val (pe_callB (cr_all rfl : CallR _ _ (rAll K)) (by rfl) B.all (by decide +kernel) (pa_cons (pe_lc (own := [("row", 4), ("key", 5)]) (g := (gTup K 2 (gCons (gName 4) (gCons (gName 5) gNil)))) (by rfl) sc_lets_bounds.nd (pi_zs (by rfl) B.zip (pa_cons (pv 2) (pa_cons (pv 3) pa_nil)) pe_bl) (blkOk_by (own := [("row", 4), ("key", 5)]) (N := ["rules", "string", "thing", "keys", "row", "key", "known", "kind", "first", "last", "worth", "way"]) (sc := defScope s_lets_bounds) (by decide +kernel)) (fun _ _ _ _ _ => (pg_tup (by rfl) (pgs_cons (pg_name (i := 4) sc_lets_bounds.nd rfl (by first | exact .inl rfl | exact .inr rfl)) (pgs_cons (pg_name (i := 5) sc_lets_bounds.nd rfl (by first | exact .inl rfl | exact .inr rfl)) pgs_nil)))) (fun _ _ _ _ _ => pts_nil) (fun _ _ _ _ _ => (pe_ok c_is_row (hr.mono (by omega)) (by rfl) (pa_cons (pv 4) (pa_cons (pv 5) pa_nil))))) pa_nil)))) (pss_one (ps_ret pe_bl)) pss_nil)
      (pss_cons (ps_set (i := 6) sc_lets_bounds.nd rfl (by first | exact .inl rfl | exact .inr rfl) (pe_dct (own := [("kind", 7), ("first", 8), ("last", 9), ("worth", 10)]) (g := (gTup K 4 (gCons (gName 7) (gCons (gName 8) (gCons (gName 9) (gCons (gName 10) gNil)))))) (hu_of hr) (by rfl) sc_lets_bounds.nd (pi_list (pv 2)) (blkOk_by (own := [("kind", 7), ("first", 8), ("last", 9), ("worth", 10)]) (N := ["rules", "string", "thing", "keys", "row", "key", "known", "kind", "first", "last", "worth", "way"]) (sc := defScope s_lets_bounds) (by decide +kernel)) (fun _ _ _ _ _ => (pg_tup (by rfl) (pgs_cons (pg_name (i := 7) sc_lets_bounds.nd rfl (by first | exact .inl rfl | exact .inr rfl)) (pgs_cons (pg_name (i := 8) sc_lets_bounds.nd rfl (by first | exact .inl rfl | exact .inr rfl)) (pgs_cons (pg_name (i := 9) sc_lets_bounds.nd rfl (by first | exact .inl rfl | exact .inr rfl)) (pgs_cons (pg_name (i := 10) sc_lets_bounds.nd rfl (by first | exact .inl rfl | exact .inr rfl)) pgs_nil)))))) (fun _ _ _ _ _ => pts_nil) (fun _ _ _ _ _ => (pe_tup (pa_cons (pv 7) (pa_cons (pv 8) (pa_cons (pv 9) pa_nil))))) (fun _ _ _ _ _ => (pv 10))))
      (pss_cons (ps_for PassesOwn.never rfl (pi_list (pv 3)) (pg_name (i := 5) sc_lets_bounds.nd rfl (by first | exact .inl rfl | exact .inr rfl)) (pss_one (ps_if (pt_not (pt_val (pe_callB (cr_all rfl : CallR _ _ (rAll K)) (by rfl) B.all (by decide +kernel) (pa_cons (pe_lc (own := [("way", 11)]) (g := (gName 11)) (by rfl) sc_lets_bounds.nd (pi_list (pe_ok c_ways_of (hr.mono (by omega)) (by rfl) (pa_cons (pv 0) (pa_cons (pv 1) (pa_cons (pv 5) pa_nil))))) (blkOk_by (own := [("way", 11)]) (N := ["rules", "string", "thing", "keys", "row", "key", "known", "kind", "first", "last", "worth", "way"]) (sc := defScope s_lets_bounds) (by decide +kernel)) (fun _ _ _ _ _ => (pg_name (i := 11) sc_lets_bounds.nd rfl (by first | exact .inl rfl | exact .inr rfl))) (fun _ _ _ _ _ => pts_nil) (fun _ _ _ _ _ => (pe_ok c_is_no_more (hr.mono (by omega)) (by rfl) (pa_cons (pe_dget (hu_of hr) (pv 6) (pv 5) (fun _ _ => rfl)) (pa_cons (pe_ok c_come_to (hr.mono (by omega)) (by rfl) (pa_cons (pv 11) (pa_cons (pv 6) pa_nil))) pa_nil))))) pa_nil)))) (pss_one (ps_ret pe_bl)) pss_nil)))
      (pss_one (ps_ret pe_bl))))))), ?_⟩
  have hn : (z.length : Int) ≤ 12 := by have := zk.le; omega
  have hz := Nat.le_trans zk.le (show 12 ≤ sizeLine by decide)
  have nd : ks.Nodup := hp.nodup_iff.mpr (keysL_nodup _)
  have lks := rows_len hp (by omega)
  have no : ∀ {S5 H5 : Hp}, Gr [] S H S5 H5 → Q (.bl false) H5 := fun g5 => q _ _ _ g5 ⟨false, rfl, fun h => by cases h⟩
  refine sAsg (callKeys (gLenS (gV (.str z)) hz) (by omega)) sS fun kv S1 H1 g1 hkv => ?_
  obtain ⟨ls, hl, hkv⟩ := hkv
  have ht1 := htv.mono g1.ss
  have ll : ks.length = ls.length := by rw [hp.length_eq, hl.length_eq]
  refine sIf (b := false) (gOr (a := false) (b := false) (gNot (a := true) (gB (gIsi (gV ht1) kb_ll))) fun _ => gTest (GD.is (gNeD (b := true) (gLenL (gV ht1)) (gLenL (gV hkv)) rfl rfl (by rw [PyData.eqv, List.length_map, List.length_map, ll]; simp)) rfl)) g1.sh (fun h => by cases h) fun _ S2 H2 g2 => ?_
  have ht2 := ht1.mono g2.ss
  have hk2 := hkv.mono g2.ss
  refine sIf (gNot (gB (gAll (bs := (ks.zip ls).map fun p => decide (p.1 = p.2)) (GD.is (gLcZ ks ls (fun k => eRow k (T k)) eKy (fun p => .bool (decide (p.1 = p.2))) ll (Nat.le_trans lks (by decide)) ((gA2 (mD _) (gV ht2) (gV hk2)).weak fun S' vs _ h => h) fun p hpm u S3 e hu => turnT2 hu fun x y hx hy => ⟨rfl, gYes, fun _ => ?_⟩) (by rw [List.map_map]; rfl))))) g2.sh (fun hb S3 H3 g3 => ?_) fun hb S3 H3 g3 => ?_
  · refine gCall (RP := R_is_row) ((gA2 (mD _) (gV hx) (gV hy)).weak fun S4 vs a hv => ?_)
    obtain ⟨x1, x2, rfl, h1, h2⟩ := hv
    exact ⟨x1, x2, p.1, p.2, T p.1, rfl, h1, h2, rfl⟩
  · exact sRet gBl g3.sh fun v5 S5 H5 g5 h5 => by
      cases h5
      exact no ((g1.trans g2).trans (g3.trans g5))
  have ht3 := ht2.mono g3.ss
  refine sAsg (gDct (gV ht3) nd lks fun key hkey u S4 e hu => ?_) g3.sh fun dv S4 H4 g4 hd => ?_
  · obtain ⟨a, xs, rfl, h1, h2⟩ := hu.tupE
    obtain ⟨x1, t1, rfl, d1, h2⟩ := h2.consE
    obtain ⟨x2, t1, rfl, d2, h2⟩ := h2.consE
    obtain ⟨x3, t1, rfl, d3, h2⟩ := h2.consE
    obtain ⟨x4, t1, rfl, d4, h2⟩ := h2.consE
    cases h2
    refine ⟨_, fun H Q s q => ⟨a, _, rfl, SqT.of (s _ _ h1), rfl, x1, _, rfl, x2, _, rfl, x3, _, rfl, x4, _, rfl, rfl, q⟩, rfl, gYes, ?_, gV d4⟩
    exact eTup (gaCons (gV d1) (gaCons (gV d2) (gaCons (gV d3) gaNil)))
  have hD := rows_dict T ks
  have tb := hD.tab
  have G4 := ((g1.trans g2).trans g3).trans g4
  refine fForL [] ls eKy (fun i σ' S' H' => ∃ e5 e11, σ' = [some v, some (.str z), some tv, some kv, none, e5, some dv, none, none, none, none, e11] ∧ ∀ key ∈ ls.take i, ∀ wy ∈ waysM (gOf r z) key, NoMore (Tr T ks key) (come (Tr T ks) wy)) (gV (hk2.mono (g3.ss.trans g4.ss))) g4.sh
    (fun S5 H5 g5 => ⟨_, _, rfl, by simp⟩) (fun i key u σ' S' H' N hx g hu hI hN => ?_) fun σ' S' H' g hI => ?_
  · obtain ⟨e5, e11, rfl, hI⟩ := hI
    have hin : key ∈ keysL (z.length : Int) := hl.mem_iff.mp (List.mem_of_getElem? hx)
    have hik := mem_keysL.mp hin
    have hks : key ∈ ks := hp.mem_iff.mpr hin
    obtain ⟨wl1, wl2⟩ := ways_len (g := gOf r z) (k := key) hik hn
    have hRx := (hR.mono G4.ss).mono g.ss
    have hdx := mDT _ _ _ _ g.ss hd
    refine sIf (gNot (gB (gAll (bs := (waysM (gOf r z) key).map fun wy => noMoreB (Tr T ks key) (come (Tr T ks) wy)) (GD.is (gLc1 (waysM (gOf r z) key) eWay (fun wy => .bool (noMoreB (Tr T ks key) (come (Tr T ks) wy))) (gCall (RP := R_ways_of) (R := fun S' x => DD S' x (.list ((waysM (gOf r z) key).map eWay)))
      ((gA3 (mR r) (mD (.str z)) (gRul hRx) (gV (.str z)) (gV hu)).weak fun S5 vs a hv => ?_)) (Nat.le_trans wl1 (by decide)) fun wy hwy uy S5 e hwu => turnN rfl gYes fun _ => ?_) (by rw [List.map_map]; rfl))))) g.sh (fun hb S5 H5 g5 => ?_) fun hb S5 H5 g5 => ?_
    · obtain ⟨x1, x2, x3, rfl, hx1, hx2, hx3⟩ := hv
      cases hx2
      exact ⟨x1, x3, r, z, key, rfl, hx1, ok, zk, hx3, hik, rfl⟩
    · refine gCall (RP := R_is_no_more) ((gA2 (mD (oD (Tr T ks key))) (gAtT (k := kyL key) (gvI (mDT _) (mDT _ _ _ _ e hdx)) (gV (hu.mono e)) (hD.val key hks) fun _ _ => DD_oD _) (gCall (RP := R_come_to) (R := fun S' x => DD S' x (oD (come (Tr T ks) wy))) ((gA2 (mD _) (gV hwu) (gvI (mDT _) (mDT _ _ _ _ e hdx))).weak fun S6 vs a hv => ?_))).weak fun S6 vs a hv => ?_)
      · obtain ⟨x1, x2, rfl, h1, h2⟩ := hv
        exact ⟨x1, x2, wy, rowsK ks T, rfl, h1, Nat.le_trans (wl2 wy hwy) (by decide), h2, hD.ok, by rw [tb]⟩
      · obtain ⟨x1, x2, rfl, h1, h2⟩ := hv
        exact ⟨x1, x2, _, _, rfl, h1, h2, rfl⟩
    · exact sRet gBl g5.sh fun v6 S6 H6 g6 h6 => by
        cases h6
        exact no ((G4.trans g).trans (g5.trans g6))
    · refine hN _ S5 _ g5 ⟨_, _, rfl, fun key' hk' wy hwy => ?_⟩
      rw [List.take_add_one, hx] at hk'
      rcases List.mem_append.mp hk' with h | h
      · exact hI key' h wy hwy
      · rw [Option.toList_some, List.mem_singleton] at h
        subst h
        have hb : (((waysM (gOf r z) key').map fun wy => noMoreB (Tr T ks key') (come (Tr T ks) wy)).all id) = true := by simpa using hb
        rw [List.all_eq_true] at hb
        exact noMoreB_iff.mp (hb _ (List.mem_map.mpr ⟨wy, hwy, rfl⟩))
  · obtain ⟨e5, e11, rfl, hI⟩ := hI
    rw [List.take_length] at hI
    show Q (.bl true) H'
    exact q _ _ _ (G4.trans g) ⟨true, rfl, fun _ key hk => hI key (hl.mem_iff.mpr hk)⟩
end
end PF
-- part PfT5
set_option Elab.async false
set_option linter.all false
set_option maxRecDepth 100000
set_option maxHeartbeats 4000000
/-! the pen and the code tables in one run -/
namespace PF
open PySem PySem.Spec PyProof.Rows L2 LamX NdefX
theorem PenAt.gw {p cs : Addr} {ns : List Int} {n : Nat} {S H S' H' : Hp} (h : PenAt p cs ns n S H) (g : Gw [] S H S' H') : PenAt p cs ns n S' H' := by
  obtain ⟨h1, h2, k, rest, h3, h4⟩ := h
  exact ⟨g.hide h1 h3, g.ss _ _ h2, k, rest, g.hh _ _ (by simp) (fun ps z => nomatch z) h3, h4⟩
/-- neither a table nor a code object -/
def NC (w : HO) : Prop := NT w ∧ ∀ c q, w ≠ CodeO c q
theorem NC.lst (xs : List V) : NC (.lst xs) := ⟨(fun ps z => nomatch z), (fun c q z => nomatch z)⟩
theorem NC.dT (xs : Kvs) : NC (.dT xs) := ⟨(fun ps z => nomatch z), (fun c q z => nomatch z)⟩
theorem TabS.over {ex : List Addr} {S H S' H' : Hp} {Pt : Addr} {q : Str} (t : TabS H Pt q) (g : Gr ex S H S' H') (h : ∀ b ∈ ex, H b = none ∨ ∃ w, H b = some w ∧ NC w) : TabS H' Pt q := by
  obtain ⟨ps, e1, e2, e3⟩ := t
  refine ⟨ps, g.hh _ _ (fun z => ?_) e1, e2, fun pos cv hc => ?_⟩
  · rcases h _ z with e | ⟨w, e, n, _⟩
    · rw [e1] at e; cases e
    · rw [e1] at e
      exact n ps (Option.some.inj e).symm
  · obtain ⟨c, hc1, hc2⟩ := e3 pos cv hc
    refine ⟨c, hc1, g.hh _ _ (fun z => ?_) hc2⟩
    rcases h _ z with e | ⟨w, e, _, n⟩
    · rw [hc2] at e; cases e
    · rw [hc2] at e
      exact n _ _ (Option.some.inj e).symm
/-- nothing that lasts stands there -/
def Nw (H : Hp) (o : Addr) : Prop := ∀ u, NT u → H o ≠ some u
theorem Nw.of {H : Hp} {o : Addr} (h : H o = none) : Nw H o := fun u _ e => by rw [h] at e; cases e
structure Run (p cs : Addr) (ns : List Int) (Pt : Addr) (n : Nat) (S0 H0 S H : Hp) : Prop where
  g : Gw [p] S0 H0 S H
  pn : PenAt p cs ns n S H
  nt : NoT S
  tb : TabS H Pt lamQ
section
variable {p cs Pt : Addr} {ns : List Int} {n m : Nat} {S0 H0 S H S' H' : Hp}
theorem Run.start (sS : Same S H) (pn : PenAt p cs ns n S H) (nt : NoT S) (tb : TabS H Pt lamQ) : Run p cs ns Pt n S H S H := ⟨(Gr.refl (ex := []) sS).w.up (by simp), pn, nt, tb⟩
theorem Run.step {ex : List Addr} (r : Run p cs ns Pt n S0 H0 S H) (g : Gr ex S H S' H') (pn : PenAt p cs ns m S' H') (h1 : ∀ b ∈ ex, b = p ∨ Nw H0 b) (h2 : ∀ b ∈ ex, b = p ∨ H b = none ∨ ∃ w, H b = some w ∧ NC w) : Run p cs ns Pt m S0 H0 S' H' := by
  have pn0 := r.pn
  obtain ⟨a1, a2, k0, rest0, a3, _⟩ := pn0
  have pn1 := pn
  obtain ⟨b1, b2, k1, rest1, b3, _⟩ := pn1
  have keep : ∀ b o, b ≠ p → NT o → H0 b = some o → H' b = some o := fun b o nb t e => g.hh b o (fun z => by
    rcases h1 b z with e' | e'
    · exact nb e'
    · exact e' o t e) (r.g.hh b o (by simpa using nb) t e)
  refine ⟨⟨fun b o nb t e => keep b o (by simpa using nb) t e, fun b o u e => ?_, r.g.ss.trans g.ss, g.sh, fun b o u e1 e2 => ?_, fun z => g.nt (r.g.nt z)⟩, pn, g.nt r.nt, TabS.over r.tb g fun b hb => ?_⟩
  · by_cases hb : b = p
    · exact ⟨_, (⟨fun ps z => (by cases z), fun ps z => (by cases z)⟩ : NU (.lst [.ref cs, .int k1, .int rest1])), hb ▸ b3⟩
    · exact ⟨o, u, keep b o hb u.1 e⟩
  · obtain ⟨o', u', e'⟩ := r.g.al b o u e2
    exact g.hid b (r.g.hid b o u e1 e2) (nonT_of e' u')
  · rcases h2 b hb with e | e
    · exact .inr ⟨_, by rw [e]; exact a3, NC.lst _⟩
    · exact e
theorem Run.gr (r : Run p cs ns Pt n S0 H0 S H) (g : Gr [] S H S' H') : Run p cs ns Pt n S0 H0 S' H' := r.step g (r.pn.gr g) (by simp) (by simp)
theorem Run.pen (r : Run p cs ns Pt n S0 H0 S H) (g : Gr [p] S H S' H') (pn : PenAt p cs ns m S' H') : Run p cs ns Pt m S0 H0 S' H' := r.step g pn (by simp) (by simp)
theorem Run.le (r : Run p cs ns Pt n S0 H0 S H) (h : n ≤ m) : Run p cs ns Pt m S0 H0 S H := ⟨r.g, r.pn.le h, r.nt, r.tb⟩
theorem Run.gw (r : Run p cs ns Pt n S0 H0 S H) (g : Gw [] S H S' H') (t : TabS H' Pt lamQ) : Run p cs ns Pt n S0 H0 S' H' := ⟨r.g.trans g.up0, r.pn.gw g, g.nt r.nt, t⟩
theorem Run.trans {S1 H1 : Hp} (a : Run p cs ns Pt n S0 H0 S H) (b : Run p cs ns Pt m S H S1 H1) : Run p cs ns Pt m S0 H0 S1 H1 := ⟨a.g.trans b.g, b.pn, b.nt, b.tb⟩
/-- a hidden list is written -/
theorem Run.put {o : Addr} {xs ys : List V} (r : Run p cs ns Pt n S0 H0 S H) (h0 : Nw H0 o) (hn : S o = none) (e : H o = some (.lst xs)) (ne : o ≠ p) : Run p cs ns Pt n S0 H0 S (upd H o (.lst ys)) :=
  r.step (ex := [o]) ((Gr.refl r.g.sh).put (by simp) hn) (r.pn.put ne) (fun b hb => by rw [List.mem_singleton.mp hb]; exact .inr h0) (fun b hb => by rw [List.mem_singleton.mp hb]; exact .inr (.inr ⟨_, e, NC.lst _⟩))
theorem Run.tell {o : Addr} {u : HO} (r : Run p cs ns Pt n S0 H0 S H) (h0 : Nw H0 o) (hn : S o = none) (e : H o = some u) (ne : o ≠ p) (nt : NT u := by intro ps z; cases z) : Run p cs ns Pt n S0 H0 (upd S o u) H := by
  obtain ⟨h1, h2, k, rest, h3, h4⟩ := r.pn
  exact ⟨r.g.tell h0 hn e nt, ⟨by rw [upd_ne ne.symm]; exact h1, same_upd' hn _ _ h2, k, rest, h3, h4⟩, r.nt.upd nt, r.tb⟩
end
theorem Gw.none {S H S' H' : Hp} {ex : List Addr} {o : Addr} (g : Gw ex S H S' H') (h : H' o = none) (ne : o ∉ ex) : Nw H o := fun u n e => by
  have := g.hh o u ne n e
  rw [h] at this
  cases this
/-! tables -/
abbrev Tbl := List Ky × Tb
def eTb (t : Tbl) : PyData := rowsD t.1 t.2
def TbA (N : Int) (m : Nat) (S : Hp) (vs : List V) : Prop := ∃ ts : List Tbl, ts.length = m ∧ (∀ t ∈ ts, t.1.Perm (keysL N)) ∧ DDs S vs (ts.map eTb)
section
variable {K : PySem.W.Frag} {σ : L2.St} {S S' H : Hp} {ta tb te tl : TE} {t : TA} {v x y : V} {ds es : List PyData} {N : Int}
theorem taN : GA tNil σ S (TbA N 0) := fun S1 H a b Q q => q [] S1 H (Gr.refl b) ⟨[], rfl, by simp, .nil⟩
theorem taC {m : Nat} (h : Gv te σ S fun S' v => ∃ ks T, List.Perm ks (keysL N) ∧ DD S' v (rowsD ks T)) (hr : GA t σ S (TbA N m)) : GA (tCons te t) σ S (TbA N (m + 1)) :=
  gaCons' h fun S1 x a hx => (hr.mono a).weak fun S2 vs a2 hv => by
    obtain ⟨ks, T, hp, hx⟩ := hx
    obtain ⟨ts, h1, h2, h3⟩ := hv
    exact ⟨(ks, T) :: ts, by rw [List.length_cons, h1], fun t ht => by
      rcases List.mem_cons.mp ht with rfl | ht
      · exact hp
      · exact h2 t ht, .cons (hx.mono a2) h3⟩
/-- x = [..], the list hidden -/
theorem sAsgLst {D : Ends} {i : Nat} {RA : Hp → List V → Prop} (h : GA t σ S RA) (sS : Same S H) (hz : ∀ S' vs, RA S' vs → vs.length ≤ sizeLine) (q : ∀ xs S1 H1 o, Gr [] S H S1 H1 → RA S1 xs → H1 o = none → D.nx (σ.set i (some (.ref o))) (upd H1 o (.lst xs))) : tAsg (tLst t) (gName i) D σ H :=
  h S H (Same.refl _) sS _ fun xs S1 H1 g hx => ⟨hz _ _ hx, fun o no => q xs S1 H1 o g hx no⟩
/-- xs.append(f(..)), f under a promise of its own -/
theorem sAppC {D : Ends} {i : Nat} {lo : Addr} {sp : Sp} {E : XK} {xs : List V} (hl : σ[i]? = some (some (.ref lo))) (e : H lo = some (.lst xs)) (q : t σ H fun vs H1 => sp (vs ++ []) H1 (fun y H2 => rAppend (.ref lo) [y] H2 fun _ H4 => D.nx σ H4) E) :
    tDrop (tBM K "list" rAppend (tVar i) (tCons (tCall sp [] E t) tNil)) D σ H := ⟨.ref lo, hl, .inl ⟨rfl, _, SqL.of e⟩, q⟩
theorem rvAddL (hx : DD S x (.list ds)) (hy : DD S y (.list es)) (hz : ds.length + es.length ≤ sizeLine) : RV (rAdd4 K) S x y fun S' v => DD S' v (.list (ds ++ es)) := fun S3 H a b Q k => by
  obtain ⟨p, xs, rfl, h1, h2⟩ := hx.lstE
  obtain ⟨q, ys, rfl, h3, h4⟩ := hy.lstE
  exact .inr (.inr (.inl ⟨p, q, xs, ys, rfl, rfl, b _ _ (a _ _ h1), b _ _ (a _ _ h3), by rw [h2.len, h4.len]; exact hz, fun c hc => k _ _ _ (Gr.new b hc) (.lst upd_same (((h2.append h4).mono a).mono (same_upd' (b.free hc))))⟩))
theorem rvAddT (hx : DD S x (.tuple ds)) (hy : DD S y (.tuple es)) (n1 : ds ≠ []) (n2 : es ≠ []) (hz : ds.length + es.length ≤ sizeLine) : RV (rAdd4 K) S x y fun S' v => DD S' v (.tuple (ds ++ es)) := fun S3 H a b Q k => by
  obtain ⟨p, xs, rfl, h1, h2⟩ := hx.tupE
  obtain ⟨q, ys, rfl, h3, h4⟩ := hy.tupE
  exact .inr (.inr (.inr ⟨p, q, xs, ys, rfl, rfl, SqT.of (b _ _ (a _ _ h1)), SqT.of (b _ _ (a _ _ h3)), by rw [h2.len, h4.len]; exact hz,
    fun e => absurd (show ds = [] by subst e; cases h2; rfl) n1, fun _ e => absurd (show es = [] by subst e; cases h4; rfl) n2,
    fun _ _ c hc => k _ _ _ (Gr.new b hc) (.tup upd_same (((h2.append h4).mono a).mono (same_upd' (b.free hc))))⟩))
end
theorem RV.weak {r : R2} {S : Hp} {x y : V} {R R' : Hp → V → Prop} (h : RV r S x y R) (w : ∀ S' v, Same S S' → R S' v → R' S' v) : RV r S x y R' := fun S1 H a b Q q => h S1 H a b Q fun v S' H' g hv => q v S' H' g (w _ _ (a.trans g.ss) hv)
theorem cutA_take {α : Type} {l : List α} {k : Nat} (h : k ≤ l.length) : cutA l none (some (k : Int)) = l.take k := by
  unfold cutA
  rw [HT.sIx_nat, HT.sIx_none, List.drop_zero, Nat.sub_zero, Nat.min_eq_left h]
theorem cutA_drop {α : Type} {l : List α} {k : Nat} (h : k ≤ l.length) : cutA l (some (k : Int)) none = l.drop k := by
  unfold cutA
  rw [HT.sIx_nat, HT.sIx_none, Nat.min_eq_left h, List.take_of_length_le (by rw [List.length_drop]; exact Nat.le_refl _)]
/-- one row changed -/
theorem rows_set {ks : List Ky} {T : Tb} {at' : Nat} {key : Ky} (o : Option Int) (nd : ks.Nodup) (h : ks[at']? = some key) :
    (ks.map fun k => eRow k (T k)).take at' ++ [eRow key o] ++ (ks.map fun k => eRow k (T k)).drop (at' + 1) = ks.map fun k => eRow k (setT T key o k) := by
  have lt := (List.getElem?_eq_some_iff.mp h).1
  refine List.ext_getElem? fun i => ?_
  have l1 : ((ks.map fun k => eRow k (T k)).take at').length = at' := by rw [List.length_take, List.length_map]; omega
  rw [List.append_assoc, List.getElem?_map]
  rcases Nat.lt_trichotomy i at' with c | c | c
  · rw [List.getElem?_append_left (by omega), List.getElem?_take_of_lt c, List.getElem?_map]
    cases e : ks[i]? with
    | none => rfl
    | some k =>
      have : k ≠ key := fun z => by
        subst z
        have := nd_ix nd e h
        omega
      simp only [Option.map_some]
      unfold setT
      rw [if_neg this]
  · subst c
    rw [List.getElem?_append_right (by omega), l1, Nat.sub_self, h]
    simp only [List.cons_append, List.getElem?_cons_zero, Option.map_some]
    unfold setT
    rw [if_pos rfl]
  · rw [List.getElem?_append_right (by omega), l1]
    obtain ⟨j, rfl⟩ : ∃ j, i = at' + 1 + j := ⟨i - (at' + 1), by omega⟩
    rw [show at' + 1 + j - at' = j + 1 by omega, List.cons_append, List.getElem?_cons_succ, List.nil_append, List.getElem?_drop, List.getElem?_map]
    cases e : ks[at' + 1 + j]? with
    | none => rfl
    | some k =>
      have : k ≠ key := fun z => by
        subst z
        have := nd_ix nd e h
        omega
      simp only [Option.map_some]
      unfold setT
      rw [if_neg this]
theorem least_int : ∀ {l : List Int}, l ≠ [] → ∃ m, m ∈ l ∧ ∀ y ∈ l, m ≤ y
  | [], h => absurd rfl h
  | [a], _ => ⟨a, by simp, by simp⟩
  | a :: b :: l, _ => by
    obtain ⟨m, h1, h2⟩ := least_int (l := b :: l) (by simp)
    by_cases h : a ≤ m
    · exact ⟨a, List.mem_cons_self, fun y hy => by
        rcases List.mem_cons.mp hy with rfl | hy
        · exact Int.le_refl _
        · exact Int.le_trans h (h2 y hy)⟩
    · exact ⟨m, List.mem_cons_of_mem _ h1, fun y hy => by
        rcases List.mem_cons.mp hy with rfl | hy
        · omega
        · exact h2 y hy⟩
theorem eqv_tup0 (ds : List PyData) : PyData.eqv (.tuple ds) (.tuple []) = ds.isEmpty := by
  rw [PyData.eqv]
  cases ds with
  | nil => rfl
  | cons d ds => rw [PyData.eqvAll]; rfl
theorem sh_stks {l : List (Str × Str × Int)} (h : ∀ t ∈ l, PyData.strOk t.1 = true ∧ PyData.strOk t.2.1 = true) : SeqAt.shaped (.tuple (l.map eStk)) = true := by
  have h1 : PyData.canLayAll0 (l.map eStk) = true := by
    induction l with
    | nil => rfl
    | cons a l ih =>
      have ha := h a List.mem_cons_self
      rw [List.map_cons, PyData.canLayAll0, ih fun t ht => h t (List.mem_cons_of_mem _ ht)]
      simp [eStk, PyData.canLay0, PyData.canLayAll0, ha.1, ha.2]
  have h2 : PyData.depthAll (l.map eStk) ≤ 1 := by
    clear h h1
    induction l with
    | nil => exact Nat.zero_le _
    | cons a l ih =>
      rw [List.map_cons, PyData.depthAll]
      have : (eStk a).depth ≤ 1 := by simp [eStk, PyData.depth, PyData.depthAll]
      omega
  unfold SeqAt.shaped
  rw [PyData.canLay0, h1, PyData.depth, Bool.true_and]
  exact decide_eq_true (by omega)
end PF
-- part PfT6
set_option Elab.async false
set_option linter.all false
set_option maxRecDepth 100000
set_option maxHeartbeats 4000000
namespace PF
open PySem PySem.Spec PyProof.Rows L2 LamX NdefX
theorem sc_law_tables : FnScope ["_law_pen_here", "_law_given", "_law_writ_here", "_law_keys_here", "_law_caps", "_law_k", "_law_told", "_law_far", "_law_key", "_law_found", "_law_row", "_law_worth_here", "_law_at"] ["_law_pen_here", "_law_given", "_law_writ_here"] (defScope s_law_tables) := ⟨rfl, rfl, rfl, by decide +kernel, rfl, by decide +kernel, by decide +kernel⟩
def spLT (Pt : Addr) : Sp := fun vs H Q _ => ∃ (p cs : Addr) (ns : List Int) (n : Nat) (S : Hp) (v : V) (r : Rl) (z : Str), vs = [.ref p, v, .str z] ∧ RulesAt S v r ∧ RlOk r ∧ ZOk z ∧ (∀ c ∈ z.cps.toList, c ∈ r.letters.cps.toList) ∧ Same S H ∧ NoT S ∧ TabS H Pt lamQ ∧ PenAt p cs ns n S H ∧ n + 400 ≤ PB ∧
  ∀ x S' H', Run p cs ns Pt (n + 400) S H S' H' → (∃ ts : List Tbl, ts.length ≤ 10 ∧ (∀ t ∈ ts, t.1.Perm (keysL (z.length : Int))) ∧ DD S' x (.list (ts.map eTb))) → Q x H'
section
variable {P : Program} {w : World} {K : PySem.W.Frag} {mg : Str → Option Value} {base : Heap}
theorem callRows {σ : L2.St} {S : Hp} {r : Rl} {z : Str} {kvc : Kvs} {v d : V} {i1 i2 i3 : Nat} (hR : RulesAt S v r) (ok : RlOk r) (zk : ZOk z) (hd : IsDT kvc S d) (okc : TabOk kvc) (h1 : σ[i1]? = some (some v) := by rfl) (h2 : σ[i2]? = some (some (.str z)) := by rfl) (h3 : σ[i3]? = some (some d) := by rfl) :
    Gv (tCall (spP R_lrows) [] E0 (tCons (tVar i1) (tCons (tVar i2) (tCons (tVar i3) tNil)))) σ S fun S' x => ∃ ks T, List.Perm ks (keysL (z.length : Int)) ∧ DD S' x (rowsD ks T) :=
  gCall (RP := R_lrows) ((gA3 (mR r) (mD (.str z)) (gRul hR h1) (gV (.str z) h2) (gvI (mDT kvc) hd h3)).weak fun S2 vs a hv => by
    obtain ⟨x1, x2, x3, rfl, hx1, hx2, hx3⟩ := hv
    cases hx2
    exact ⟨x1, x3, r, z, kvc, rfl, hx1, ok, zk, hx3, okc, rfl⟩)
theorem ok_law_tables {f Pt : Addr} {fd : FuncData} {k : Nat} (F : Fun K "_law_tables" "_law_tables" s_law_tables f fd) (B : BI mg) (c_law_keys : Ok P w K mg base "_law_keys" ["_law_many"] 1 (spP R_row_keys)) (c_law_draw : Ok P w K mg base "_law_draw" ["_law_pen_here", "_law_many"] 1 (spE 1 RpDraw))
    (c_law_pick : Ok P w K mg base "_law_pick" ["_law_pen_here", "_law_some"] 2 (spE 1 RpPick)) (c_table_of : Ok P w K mg base "table_of" ["rules", "string"] 6 (spTO Pt)) (c_law_least_rows : Ok P w K mg base "_law_least_rows" ["_law_given", "_law_writ_here", "_law_caps"] 4 (spP R_lrows))
    (c_law_cheaper : Ok P w K mg base "_law_cheaper" ["_law_pen_here", "_law_given"] 3 (spE 300 RpCheaper)) (hk : 6 ≤ k) : FnOk P w K mg base CX0 (k + 1) f fd ["_law_pen_here", "_law_given", "_law_writ_here"] (spLT Pt) := by
  refine F.ok sc_law_tables (fun vs H Q E h => by obtain ⟨p, cs, ns, n, S, v, r, z, rfl, _⟩ := h; rfl) fun cdv A outer s H vs Q E hr h => ?_
  obtain ⟨p, cs, ns, n, S, v, r, z, rfl, hR, ok, zk, hc, sS, nt, hT, pn, hB, q⟩ := h
  refine ⟨_, (pss_cons (ps_set (i := 3) sc_law_tables.nd rfl (by first | exact .inl rfl | exact .inr rfl) (pe_ok c_law_keys (hr.mono (by omega)) (by rfl) (pa_cons (pe_callB (call_lenA : CallR _ _ (rLenA K)) (by rfl) B.len (by decide +kernel) (pa_cons (pv 2) pa_nil)) pa_nil)))
      (pss_cons (ps_set (i := 4) sc_law_tables.nd rfl (by first | exact .inl rfl | exact .inr rfl) pe_dnewT)
      (pss_cons (ps_for PassesOwn.never rfl (pi_range1 (by rfl) B.range (pa_cons (pe_ok c_law_draw (hr.mono (by omega)) (by rfl) (pa_cons (pv 0) (pa_cons pe_int pa_nil))) pa_nil)) (pg_name (i := 5) sc_law_tables.nd rfl (by first | exact .inl rfl | exact .inr rfl)) (pss_one (ps_dput (hu_of hr) (pv 4) (pe_ok c_law_pick (hr.mono (by omega)) (by rfl) (pa_cons (pv 0) (pa_cons (pv 3) pa_nil))) (pe_op op_sub (pe_ok c_law_draw (hr.mono (by omega)) (by rfl) (pa_cons (pv 0) (pa_cons pe_int pa_nil))) pe_int) rfl)))
      (pss_cons (ps_set (i := 6) sc_law_tables.nd rfl (by first | exact .inl rfl | exact .inr rfl) (pe_ok c_table_of (hr.mono (by omega)) (by rfl) (pa_cons (pv 1) (pa_cons (pv 2) pa_nil))))
      (pss_cons (ps_set (i := 7) sc_law_tables.nd rfl (by first | exact .inl rfl | exact .inr rfl) (pe_callTy (call_dictL' rfl hr.units) (by rfl) B.dict (by decide +kernel) (pa_cons (pe_lc (own := [("_law_key", 8)]) (g := (gName 8)) (by rfl) sc_law_tables.nd (pi_list (pv 3)) (blkOk_by (own := [("_law_key", 8)]) (N := ["_law_pen_here", "_law_given", "_law_writ_here", "_law_keys_here", "_law_caps", "_law_k", "_law_told", "_law_far", "_law_key", "_law_found", "_law_row", "_law_worth_here", "_law_at"]) (sc := defScope s_law_tables) (by decide +kernel)) (fun _ _ _ _ _ => (pg_name (i := 8) sc_law_tables.nd rfl (by first | exact .inl rfl | exact .inr rfl))) (fun _ _ _ _ _ => pts_nil) (fun _ _ _ _ _ => (pe_tup (pa_cons (pv 8) (pa_cons (pe_un un_neg pe_int) pa_nil))))) pa_nil)))
      (pss_cons (ps_set (i := 9) sc_law_tables.nd rfl (by first | exact .inl rfl | exact .inr rfl) (pe_lst (pa_cons (pv 6) (pa_cons (pe_ok c_law_least_rows (hr.mono (by omega)) (by rfl) (pa_cons (pv 1) (pa_cons (pv 2) (pa_cons (pv 4) pa_nil)))) (pa_cons (pe_ok c_law_least_rows (hr.mono (by omega)) (by rfl) (pa_cons (pv 1) (pa_cons (pv 2) (pa_cons (pv 7) pa_nil)))) pa_nil)))))
      (pss_cons (ps_expr (pe_bm PySem.F.plainAttrs_list PySem.F.slot_list_append PySem.F.type_list_append mt_append (pv 9) (pa_cons (pe_lc (own := [("_law_row", 10)]) (g := (gName 10)) (by rfl) sc_law_tables.nd (pi_list (pv 6)) (blkOk_by (own := [("_law_row", 10)]) (N := ["_law_pen_here", "_law_given", "_law_writ_here", "_law_keys_here", "_law_caps", "_law_k", "_law_told", "_law_far", "_law_key", "_law_found", "_law_row", "_law_worth_here", "_law_at"]) (sc := defScope s_law_tables) (by decide +kernel)) (fun _ _ _ _ _ => (pg_name (i := 10) sc_law_tables.nd rfl (by first | exact .inl rfl | exact .inr rfl))) (fun _ _ _ _ _ => pts_nil) (fun _ _ _ _ _ => (pe_op (op_add4 : OpR _ _ (rAdd4 K)) (pe_slice (sl_2 : SlR _ (rSl2 K)) (pv 10) po_none (po_some pe_int)) (pe_tup (pa_cons (pe_un un_neg pe_int) pa_nil))))) pa_nil)))
      (Evl.pss_cut (ps_if (PW.pt (pw_and (pt_cmpR op_gt (pe_callB (cr_min rfl) (by rfl) B.min (by decide +kernel) (pa_cons (pe_op (op_add4 : OpR _ _ (rAdd4 K)) (pe_lc (own := [("_law_worth_here", 11)]) (g := (gName 11)) (by rfl) sc_law_tables.nd (pi_tup (pe_ix (ix_seq : IxR _ (rIx K)) (pv 1) pe_int (fun _ _ => rfl))) (blkOk_by (own := [("_law_worth_here", 11)]) (N := ["_law_pen_here", "_law_given", "_law_writ_here", "_law_keys_here", "_law_caps", "_law_k", "_law_told", "_law_far", "_law_key", "_law_found", "_law_row", "_law_worth_here", "_law_at"]) (sc := defScope s_law_tables) (by decide +kernel)) (fun _ _ _ _ _ => (pg_name (i := 11) sc_law_tables.nd rfl (by first | exact .inl rfl | exact .inr rfl))) (fun _ _ _ _ _ => pts_nil) (fun _ _ _ _ _ => (pv 11))) (pe_lst (pa_cons pe_int pa_nil))) pa_nil)) (pe_un un_neg pe_int) (nomark _)) (pw_and1 (pt_cmpR (op_eqD hr.units : OpR _ _ (rEqD K)) (pe_ix (ix_seq : IxR _ (rIx K)) (pv 1) pe_int (fun _ _ => rfl)) (pe_tup pa_nil) (nomark _))))) (pss_one (ps_expr (pe_bm PySem.F.plainAttrs_list PySem.F.slot_list_append PySem.F.type_list_append mt_append (pv 9) (pa_cons (pe_ok c_table_of (hr.mono (by omega)) (by rfl) (pa_cons (pe_ok c_law_cheaper (hr.mono (by omega)) (by rfl) (pa_cons (pv 0) (pa_cons (pv 1) pa_nil))) (pa_cons (pv 2) pa_nil))) pa_nil)))) pss_nil)
      (pss_cons (ps_set (i := 12) sc_law_tables.nd rfl (by first | exact .inl rfl | exact .inr rfl) (pe_ok c_law_draw (hr.mono (by omega)) (by rfl) (pa_cons (pv 0) (pa_cons (pe_callB (call_lenA : CallR _ _ (rLenA K)) (by rfl) B.len (by decide +kernel) (pa_cons (pv 6) pa_nil)) pa_nil))))
      (pss_one (ps_ret (pe_op (op_add4 : OpR _ _ (rAdd4 K)) (pv 9) (pe_lst (pa_cons (pe_op (op_add4 : OpR _ _ (rAdd4 K)) (pe_op (op_add4 : OpR _ _ (rAdd4 K)) (pe_slice (sl_2 : SlR _ (rSl2 K)) (pv 6) po_none (po_some (pv 12))) (pe_lst (pa_cons (pe_op (op_add4 : OpR _ _ (rAdd4 K)) (pe_slice (sl_2 : SlR _ (rSl2 K)) (pe_ix (ix_seq : IxR _ (rIx K)) (pv 6) (pv 12) (fun _ _ => rfl)) po_none (po_some pe_int)) (pe_tup (pa_cons (pe_ok c_law_pick (hr.mono (by omega)) (by rfl) (pa_cons (pv 0) (pa_cons (pe_lst (pa_cons pe_non (pa_cons pe_int (pa_cons (pe_un un_neg pe_int) (pa_cons pe_int pa_nil))))) pa_nil))) pa_nil))) pa_nil))) (pe_slice (sl_2 : SlR _ (rSl2 K)) (pv 6) (po_some (pe_op (op_add4 : OpR _ _ (rAdd4 K)) (pv 12) pe_int)) po_none)) pa_nil)))))))))))))), ?_⟩
  have hn : (z.length : Int) ≤ 12 := by have := zk.le; omega
  have hz := Nat.le_trans zk.le (show 12 ≤ sizeLine by decide)
  have r0 : Run p cs ns Pt n S H S H := Run.start sS pn nt hT
  refine sAsg (callKeys (gLenS (gV (.str z)) hz) (by omega)) sS fun kv S1 H1 g1 hkv => ?_
  obtain ⟨ls, hl, hkv⟩ := hkv
  have r1 := r0.gr g1
  have ll : ls.length ≤ 1000 := rows_len hl (by omega)
  have k0 : ((Kd.opn, 0, (z.length : Int) - 1) : Ky) ∈ ls := hl.mem_iff.mpr (mem_keysL.mpr ⟨Int.le_refl _, by omega, rfl⟩)
  have l1 : 1 ≤ ls.length := List.length_pos_of_mem k0
  have ndl : ls.Nodup := hl.nodup_iff.mpr (keysL_nodup _)
  refine sNewT fun o no => ?_
  have g2 : Gr [] S1 H1 S1 (upd H1 o (.dT [])) := Gr.priv g1.sh no
  have r2 := r1.gr g2
  have hop : o ≠ p := pen_ne r1.pn no
  have oH : H o = none := g1.same.free no
  have n1 : S1 o = none := g1.sh.free no
  refine fForRE (n := n) (c := 1) (R := fun _ v => ∃ m, v = .int m ∧ m < 6) (Ge.weak (eDraw gInt (by decide) (by decide)) fun S3 x e hx => ?_) g2.sh r2.pn (by omega) fun m S3 H3 g3 pn3 hR3 m0 m1 => ?_
  · obtain ⟨d, rfl, d0, d1⟩ := hx
    exact ⟨d, rfl, ⟨d, rfl, d1⟩, d0, by omega⟩
  obtain ⟨m', em, mlt⟩ := hR3
  cases em
  have r3 := r2.pen g3 pn3
  have e3 : H3 o = some (.dT []) := g3.hh o _ (by simpa using hop) upd_same
  have n3 : S3 o = none := g3.hide n1 upd_same
  refine ⟨[o, p], fun i σ' S' H' => ∃ e5 kvs, σ' = [some (.ref p), some v, some (.str z), some kv, some (.ref o), e5, none, none, none, none, none, none, none] ∧ S' o = none ∧ H' o = some (.dT kvs) ∧ TabOk kvs ∧ kvs.length ≤ i ∧ PenAt p cs ns (n + 1 + 2 * i) S' H',
    ⟨none, [], rfl, n3, e3, (fun p hp => by cases hp), Nat.le_refl _, pn3⟩, fun i σ' S' H' N hi g hI hN => ?_, fun σ' S' H' g hI => ?_⟩
  · obtain ⟨e5, kvs, rfl, n', eo, hok, hkl, pn'⟩ := hI
    have hk' := hkv.mono (g3.ss.trans g.ss)
    refine (eSubI (p := p) (cs := cs) (ns := ns) (c := 1) (i := 50) (S := S') (P := fun d => 0 ≤ d ∧ d < 61) (σ := [some (.ref p), some v, some (.str z), some kv, some (.ref o), some (.int (0 + (i : Int))), none, none, none, none, none, none, none]) (eDraw (m := 61) gInt (by decide) (by decide) rfl) gInt) _ S' H' (Same.refl _) g.sh pn' (by omega) _ fun wv S4 H4 g4 pn4 hw => ?_
    obtain ⟨d, rfl, _⟩ := hw
    refine ⟨.ref o, rfl, ?_⟩
    have n4 := g4.hide n' eo
    have e4 := g4.hh o _ (by simpa using hop) eo
    refine (ePickL (p := p) (cs := cs) (ns := ns) (S := S4) (i := 0) (ds := ls.map eKy) (te := tVar 3) (σ := [some (.ref p), some v, some (.str z), some kv, some (.ref o), some (.int (0 + (i : Int))), none, none, none, none, none, none, none]) (gV (hk'.mono g4.ss)) (by rw [List.length_map]; exact l1) (by rw [List.length_map]; omega) rfl) _ S4 H4 (Same.refl _) g4.sh pn4 (by omega) _ fun y S5 H5 g5 pn5 hy => ?_
    obtain ⟨dk, hdk, hy⟩ := hy
    obtain ⟨key, hkey, rfl⟩ := List.mem_map.mp hdk
    obtain ⟨kb, xs, rfl, k1, k2⟩ := hy.tupE
    obtain rfl : xs = (kyL key).map kV := DDs.keys (k := kyL key) k2
    have n5 := g5.hide n4 e4
    have e5 := g5.hh o _ (by simpa using hop) e4
    refine ⟨o, _, rfl, DPut.t e5 (g5.sh _ _ k1) (Nat.lt_of_le_of_lt (show kvs.length ≤ 1000 by omega) (by decide)), ?_⟩
    refine hN _ S5 _ (((g4.trans g5).up (by simp)).put (by simp) n5) ⟨_, _, rfl, n5, upd_same, tabOk_put (o := some (d - 50)) hok, ?_, (pn5.put hop).le (by omega)⟩
    have := length_putK kvs (kyL key) (.int (d - 50))
    show (putK kvs (kyL key) (.int (d - 50))).length ≤ i + 1
    omega
  obtain ⟨e5, kvs, rfl, n', eo, hok, hkl, pn4⟩ := hI
  have r4 : Run p cs ns Pt (n + 13) S H S' H' := (r3.step g pn4 (fun b hb => by
    rcases List.mem_cons.mp hb with rfl | hb
    · exact .inr (Nw.of oH)
    · exact .inl (List.mem_singleton.mp hb)) (fun b hb => by
    rcases List.mem_cons.mp hb with rfl | hb
    · exact .inr (.inr ⟨_, e3, NC.dT _⟩)
    · exact .inl (List.mem_singleton.mp hb))).le (by omega)
  have r5 := r4.tell (Nw.of oH) n' eo hop
  have hdc : IsDT kvs (upd S' o (.dT kvs)) (.ref o) := ⟨o, rfl, upd_same⟩
  have s14 : Same S1 (upd S' o (.dT kvs)) := (g3.ss.trans g.ss).trans (same_upd' n')
  generalize upd S' o (.dT kvs) = S4 at r5 hdc s14
  refine sAsgC (gA2 (mR r) (gRul (hR.mono r5.g.ss)) (gV (.str z))) r5.g.sh fun vs S5 H5 g5 hv => ?_
  obtain ⟨x, y, rfl, hx, hy⟩ := hv
  cases hy
  have r6 := r5.gr g5
  refine ⟨S5, x, r, z, rfl, hx, ok, zk, hc, g5.sh, r6.nt, r6.tb, fun tv S6 H6 gw hT6 hK => ?_⟩
  obtain ⟨ks, Kt, hp, hF, ht⟩ := hK
  have r7 := r6.gw gw hT6
  have ndk : ks.Nodup := hp.nodup_iff.mpr (keysL_nodup _)
  have lk : ks.length ≤ 1000 := rows_len hp (by omega)
  have lk1 : 1 ≤ ks.length := by rw [hp.length_eq, ← hl.length_eq]; exact l1
  have s46 := g5.ss.trans gw.ss
  refine sAsg (gDictL (T := fun _ => some (-500)) (ks := ls) (gLc1 ls eKy (fun k => eEnt k (some (-500))) (gV (hkv.mono (s14.trans s46))) (Nat.le_trans ll (by decide)) fun x hx u S8 e hu => turnN rfl gYes fun _ => eTup (ds := [eKy x, .int (-500)]) (gaCons (gV hu) (gaCons (gNeg gInt) gaNil))) ndl) r7.g.sh fun fv S7 H7 g7 hf => ?_
  have r8 := r7.gr g7
  have ht7 := ht.mono g7.ss
  have hR7 := hR.mono r8.g.ss
  have hfd : GA (tCons (tVar 6) (tCons (tCall (spP R_lrows) [] E0 (tCons (tVar 1) (tCons (tVar 2) (tCons (tVar 4) tNil)))) (tCons (tCall (spP R_lrows) [] E0 (tCons (tVar 1) (tCons (tVar 2) (tCons (tVar 7) tNil)))) tNil))) [some (.ref p), some v, some (.str z), some kv, some (.ref o), e5, some tv, some fv, none, none, none, none, none] S7 (TbA (z.length : Int) 3) :=
    taC (Gv.weak (gV ht7) fun S9 x _ h => ⟨ks, Kt, hp, h⟩) (taC (callRows hR7 ok zk (mDT kvs _ _ _ (s46.trans g7.ss) hdc) hok) (taC (callRows hR7 ok zk hf (rows_dict (fun _ => some (-500)) ls).ok) taN))
  refine sAsgLst hfd r8.g.sh (fun S' vs h => ?_) fun xs S8 H8 lo g8 hxs nlo => ?_
  · obtain ⟨ts, h1, _, h3⟩ := h
    rw [h3.len, List.length_map, h1]
    decide
  obtain ⟨ts, tl, tp, hts⟩ := hxs
  have r9 := r8.gr g8
  have lon : lo ≠ p := pen_ne r9.pn nlo
  have loN : Nw H lo := Gw.none r9.g nlo (by simpa using lon)
  have g9 := Gr.priv (o := .lst xs) g8.sh nlo
  have r10 := r9.gr g9
  have ht8 := ht7.mono g8.ss
  have s68 := g7.ss.trans g8.ss
  refine sApp (xs := xs) (gvI (mV _) rfl) (d := eTb (ks, fun _ => some (-2000))) (gLc1 ks (fun k => eRow k (Kt k)) (fun k => eRow k (some (-2000))) (gV ht8) (Nat.le_trans lk (by decide)) fun key hkey u S10 e hu => turnN rfl gYes fun _ => ?_) r10.g.sh (g8.sh.free nlo) upd_same (by rw [hts.len, List.length_map, tl]; decide) fun y S10 H10 g10 _ hy n10 => ?_
  · exact gAddT (ds := [.str (kdS key.1), .int key.2.1, .int key.2.2]) (es := [.int (-2000)]) (GD.is (gSlT (gV hu) goNo (goPart gInt)) rfl) (eTup (gaCons (gNeg gInt) gaNil)) (by show 3 + 1 ≤ sizeLine; decide)
  have e10 := g10.same _ _ upd_same
  have r11 := (r10.gr g10).put (ys := xs ++ [y]) loN n10 e10 lon
  have s610 := s68.trans g10.ss
  have hts10 : DDs S10 (xs ++ [y]) ((ts ++ [((ks, fun _ => some (-2000)) : Tbl)]).map eTb) := by
    rw [List.map_append]
    exact (hts.mono g10.ss).snoc hy
  have tp10 : ∀ t ∈ ts ++ [((ks, fun _ => some (-2000)) : Tbl)], t.1.Perm (keysL (z.length : Int)) := fun t h => by
    rcases List.mem_append.mp h with h | h
    · exact tp t h
    · rw [List.mem_singleton.mp h]; exact hp
  have tl10 : (ts ++ [((ks, fun _ => some (-2000)) : Tbl)]).length = 4 := by rw [List.length_append, tl]; rfl
  generalize ts ++ [((ks, fun _ => some (-2000)) : Tbl)] = tz at hts10 tp10 tl10
  generalize xs ++ [y] = xz at r11 hts10
  have lxz : xz.length = 4 := by rw [hts10.len, List.length_map, tl10]
  refine ⟨fun σ' H' => ∃ (S' : Hp) (xs : List V) (ts : List Tbl), σ' = [some (.ref p), some v, some (.str z), some kv, some (.ref o), e5, some tv, some fv, none, some (.ref lo), none, none, none] ∧ Run p cs ns Pt (n + 380) S H S' H' ∧ S' lo = none ∧ H' lo = some (.lst xs) ∧ ts.length ≤ 5 ∧ (∀ t ∈ ts, t.1.Perm (keysL (z.length : Int))) ∧ DDs S' xs (ts.map eTb) ∧ Same S6 S', ?_, fun σ' H' hM => ?_⟩
  · obtain ⟨mn, hm1, hm2⟩ := least_int (l := r.loops ++ [0]) (by simp)
    have hR10 := hR.mono r11.g.ss
    refine sIf (gAnd (gTest (gCmpI (f := fun i j => decide (j < i)) (gMinL (R := fun S' x => DD S' x (.int mn)) (ns := r.loops ++ [0]) (GD.is (gAddL (gLcT1 r.loops .int .int (gRul3 (gRul hR10)) (Nat.le_trans (show _ ≤ 64 by have := ok.n9; omega) (by decide)) fun x hx u S12 e hu => turnN rfl gYes fun _ => gV hu) (eLst (gaCons gInt gaNil)) ?_) ?_) ?_ fun S' m' _ h1 h2 => ?_) (gNeg gInt)))
      fun _ => gTest (gEqD (gRul4 (gRul hR10)) (eTup gaNil) (sh_stks ok.so) (by decide +kernel) (eqv_tup0 _))) r11.g.sh (fun _ S12 H12 g12 => ?_) fun _ S12 H12 g12 => ?_
    · rw [List.length_map]
      exact Nat.le_trans (show _ ≤ 64 by have := ok.n9; simp only [List.length_cons, List.length_nil]; omega) (by decide)
    · rw [List.map_append]; rfl
    · rw [List.length_append]; exact Nat.succ_pos _
    · obtain rfl : m' = mn := Int.le_antisymm (h2 mn hm1) (hm2 m' h1)
      exact .int _
    · have r12 := r11.gr g12
      have n12 := g12.hide n10 upd_same
      have e12 := g12.same _ _ upd_same
      refine sAppC rfl e12 ?_
      refine (eCall (p := p) (cs := cs) (ns := ns) (c := 300) (RP := RpCheaper) (S := S12) (R := fun S' v => ∃ r', RlOk r' ∧ r'.letters = r.letters ∧ RulesAt S' v r') (t := tCons (tVar 0) (tCons (tVar 1) tNil)) ((gA2 (mV (.ref p)) (gvI (mV (.ref p)) rfl) (gRul (hR10.mono g12.ss))).weak fun S2 vs a hv => ?_)) (n + 13) S12 H12 (Same.refl _) r12.g.sh r12.pn (by omega) _ fun gv S13 H13 g13 pn13 hv => ?_
      · obtain ⟨x, y, rfl, rfl, hy⟩ := hv
        exact ⟨rfl, y, r, rfl, hy, ok, rfl⟩
      obtain ⟨r', ok', hlet, hR'⟩ := hv
      have r13 := r12.pen g13 pn13
      have n13 := g13.hide n12 e12
      have e13 := g13.hh lo _ (by simpa using lon) e12
      refine ⟨.str z, rfl, ?_⟩
      refine ⟨S13, gv, r', z, rfl, hR', ok', zk, by rw [hlet]; exact hc, g13.sh, r13.nt, r13.tb, fun y S14 H14 gw2 hT14 hK => ?_⟩
      obtain ⟨ks2, Kt2, hp2, _, ht2⟩ := hK
      have r14 := r13.gw gw2 hT14
      have n14 := gw2.hide n13 e13
      have e14 := gw2.hh lo _ (by simp) (NC.lst xz).1 e13
      refine ⟨lo, xz, y, rfl, rfl, e14, by rw [lxz]; decide, S14, xz ++ [y], tz ++ [(ks2, Kt2)], rfl, (r14.put loN n14 e14 lon).le (by omega), n14, upd_same, by rw [List.length_append, tl10]; exact Nat.le_refl _, fun t h => ?_, ?_, s610.trans ((g12.ss.trans g13.ss).trans gw2.ss)⟩
      · rcases List.mem_append.mp h with h | h
        · exact tp10 t h
        · rw [List.mem_singleton.mp h]; exact hp2
      · rw [List.map_append]
        exact (hts10.mono ((g12.ss.trans g13.ss).trans gw2.ss)).snoc ht2
    · exact ⟨S12, xz, tz, rfl, (r11.gr g12).le (by omega), g12.hide n10 upd_same, g12.same _ _ upd_same, by omega, tp10, hts10.mono g12.ss, s610.trans g12.ss⟩
  obtain ⟨S12, xw, tw, rfl, r12, n12, e12, lw, tpw, htw, s612⟩ := hM
  have ht12 := ht.mono s612
  refine eAsg (n := n + 380) (eDraw (gLenL (gV ht12)) (by rw [List.length_map]; omega) (by rw [List.length_map]; omega)) r12.g.sh r12.pn (by omega) fun av S13 H13 g13 pn13 hav => ?_
  obtain ⟨d, rfl, d0, d1⟩ := hav
  obtain ⟨i, rfl⟩ : ∃ i : Nat, d = (i : Int) := ⟨d.toNat, by omega⟩
  rw [List.length_map] at d1
  have hi : i < ks.length := by omega
  have hki : ks[i]? = some ks[i] := List.getElem?_eq_getElem hi
  generalize ks[i] = key at hki
  have r13 := r12.pen g13 pn13
  have n13 := g13.hide n12 e12
  have e13 := g13.hh lo _ (by simpa using lon) e12
  have r14 := r13.tell loN n13 e13 lon
  have hfo : DD (upd S13 lo (.lst xw)) (.ref lo) (.list (tw.map eTb)) := .lst upd_same (htw.mono (g13.ss.trans (same_upd' n13)))
  have ht14 := (ht12.mono g13.ss).mono (same_upd' (o := .lst xw) n13)
  generalize upd S13 lo (.lst xw) = S14 at r14 hfo ht14
  have lrow : (ks.map fun k => eRow k (Kt k)).length = ks.length := List.length_map ..
  have hrow : ∀ {σ : L2.St}, σ[0]? = some (some (.ref p)) → σ[6]? = some (some tv) → σ[12]? = some (some (.int (i : Int))) → ∀ {S2 : Hp}, Same S14 S2 → Ge p cs ns 1 (tOp (rAdd4 K) (tSl (rSl2 K) (tOp (rIx K) (tVar 6) (tVar 12)) tNoPart (tPart (tC (.int 3)))) (tTup (tCons (tCall (spE 1 RpPick) [] E0 (tCons (tVar 0) (tCons (tLst (tCons (tC .non) (tCons (tC (.int 7)) (tCons (tUn (rU fun i => .int (-i)) (tC (.int 7))) (tCons (tC (.int 0)) tNil))))) tNil))) tNil))) σ S2 (Sm' fun d => ∃ o, d = eRow key o) := fun {σ} a0 a6 a12 {S2} e2 => by
    refine (eOp (c1 := 0) (c2 := 1) (R := fun S v => DD S v (.tuple [.str (kdS key.1), .int key.2.1, .int key.2.2])) (GD.is (gSlT (gIxL (d := eRow key (Kt key)) (gV (ht14.mono e2) a6) (gV (.int (i : Int)) a12) (atI_nat (j := i) ?_)) goNo (goPart gInt)) rfl).e fun S4 y e4 hy => (eTupE (c := 1 + 0) (Pd := fun ds => ∃ o, ds = [oD o]) (eaCons' (ePickL (ds := [.none, .int 7, .int (-7), .int 0]) (eLst (gaCons gNon (gaCons gInt (gaCons (gNeg gInt) (gaCons gInt gaNil))))) (by decide) (by decide) a0) fun S5 y2 e5 hy2 => eaNil.weak fun S6 vs e6 hvs => ?_) fun ds h => ?_).weak fun S6 v e6 h => ?_).le (by omega)
    · rw [List.getElem?_map, hki]; rfl
    · subst hvs
      obtain ⟨d, hd, hy2⟩ := hy2
      have : ∃ o, d = oD o := by
        simp at hd
        rcases hd with rfl | rfl | rfl | rfl
        · exact ⟨none, rfl⟩
        · exact ⟨some 7, rfl⟩
        · exact ⟨some (-7), rfl⟩
        · exact ⟨some 0, rfl⟩
      obtain ⟨o, rfl⟩ := this
      exact ⟨_, ⟨o, rfl⟩, .cons (hy2.mono e6) .nil⟩
    · obtain ⟨o, rfl⟩ := h
      exact (by decide : 1 ≤ 64)
    · obtain ⟨ds, ⟨o, rfl⟩, hv⟩ := h
      exact (rvAddT (hy.mono e6) hv (by simp) (by simp) (by show 3 + 1 ≤ sizeLine; decide)).weak fun S7 v7 _ h7 => ⟨eRow key o, ⟨o, rfl⟩, h7⟩
  have lt1 : ((ks.map fun k => eRow k (Kt k)).take i).length ≤ 1000 := by rw [List.length_take, lrow]; omega
  have lt2 : ((ks.map fun k => eRow k (Kt k)).drop (i + 1)).length ≤ 1000 := by rw [List.length_drop, lrow]; omega
  refine eRet (n := n + 380 + 1) (c := 0 + ((0 + (1 + 0) + 0) + 0)) (R := fun S' x => ∃ ts : List Tbl, ts.length ≤ 10 ∧ (∀ t ∈ ts, t.1.Perm (keysL (z.length : Int))) ∧ DD S' x (.list (ts.map eTb))) (eOp (gV hfo).e fun S15 x e15 hx => (eLstE (m := 1) (P := fun d => ∃ T', d = rowsD ks T') (eaC
    (eOp (R := fun S' v => ∃ o, DD S' v (.list ((ks.map fun k => eRow k (Kt k)).take i ++ [eRow key o]))) (eOp (R := fun S' v => DD S' v (.list ((ks.map fun k => eRow k (Kt k)).take i))) (GD.is (gSlL (gV (ht14.mono e15)) goNo (goPart (gV (.int (i : Int))))) (by rw [cutA_take (by rw [lrow]; omega)])).e fun S16 x2 e16 hx2 => (eLstE (m := 1) (P := fun d => ∃ o, d = eRow key o) (eaC (hrow rfl rfl rfl (e15.trans e16)) eaN) (by decide)).weak fun S17 y2 e17 hy2 => ?_)
      fun S16 x2 e16 hx2 => (Gv.weak (GD.is (gSlL (gV ((ht14.mono e15).mono e16)) (goPart (gAddI (gV (.int (i : Int))) gInt)) goNo) (congrArg PyData.list (cutA_drop (k := i + 1) (by rw [lrow]; omega)))) fun S17 y2 e17 hy2 => ?_).e) eaN) (by decide)).weak fun S16 y e16 hy => ?_) r14.g.sh r14.pn (by omega) fun x S15 H15 g15 pn15 hx => q x S15 H15 ((r14.pen g15 pn15).le (by omega)) hx
  · obtain ⟨ds, d1, d2, d3⟩ := hy2
    obtain ⟨dd, rfl⟩ : ∃ dd, ds = [dd] := by
      match ds, d1 with
      | [dd], _ => exact ⟨dd, rfl⟩
    obtain ⟨o, rfl⟩ := d2 dd (by simp)
    exact (rvAddL (hx2.mono e17) d3 (Nat.le_trans (show _ ≤ 2000 by simp only [List.length_cons, List.length_nil]; omega) (by decide))).weak fun S18 v18 _ h => ⟨o, h⟩
  · obtain ⟨o, hx2⟩ := hx2
    refine (rvAddL (hx2.mono e17) hy2 (Nat.le_trans (show _ ≤ 3000 by rw [List.length_append]; simp only [List.length_cons, List.length_nil]; omega) (by decide))).weak fun S18 v18 _ h => ⟨rowsD ks (fun k => setT Kt key o k), ⟨_, rfl⟩, ?_⟩
    unfold rowsD
    rw [← rows_set o ndk hki]
    exact h
  · obtain ⟨ds, d1, d2, d3⟩ := hy
    obtain ⟨dd, rfl⟩ : ∃ dd, ds = [dd] := by
      match ds, d1 with
      | [dd], _ => exact ⟨dd, rfl⟩
    obtain ⟨T', rfl⟩ := d2 dd (by simp)
    refine (rvAddL (hx.mono e16) d3 (Nat.le_trans (show _ ≤ 64 by rw [List.length_map]; simp only [List.length_cons, List.length_nil]; omega) (by decide))).weak fun S18 v18 _ h => ⟨tw ++ [(ks, T')], by rw [List.length_append]; simp only [List.length_cons, List.length_nil]; omega, fun t ht => ?_, ?_⟩
    · rcases List.mem_append.mp ht with h | h
      · exact tpw t h
      · rw [List.mem_singleton.mp h]; exact hp
    · rw [List.map_append]
      exact h
end
end PF
-- part PfT7
set_option Elab.async false
set_option linter.all false
set_option maxRecDepth 100000
set_option maxHeartbeats 4000000
namespace PF
open PySem PySem.Spec PyProof.Rows L2 LamX NdefX
theorem sc_law : FnScope ["_law_script", "_law_pen_here", "_law_turn", "_law_given", "_law_writ_here", "_law_listed_so", "_law_worths_so", "_law_one", "_law_rows", "_law_told", "_law_row", "_law_key", "_law_high"] ["_law_script"] (defScope s_law) := ⟨rfl, rfl, rfl, by decide +kernel, rfl, by decide +kernel, by decide +kernel⟩
section
variable {p cs : Addr} {ns : List Int} {c c1 c2 : Nat} {S S' H : Hp} {σ : L2.St} {ta tb te tl tk tv : TE} {tt tu : TT} {t : TA} {R : Hp → V → Prop} {K : PySem.W.Frag} {r : R2} {D : Ends} {g : TG} {vs : List Nat} {v : V}
theorem eCallX {RP : Addr → Hp → List V → (Hp → V → Prop) → Prop} (h : GeA p cs ns c1 t σ S fun S' vs => vs.head? = some (.ref p) ∧ ∃ Post, RP p S' vs Post ∧ ∀ S2 v, Post S2 v → R S2 v) : Ge p cs ns (c1 + c) (tCall (spE c RP) [] E0 t) σ S R := fun n S1 H a b pn hn Q q => h n S1 H a b pn (by omega) _ fun vs S2 H2 g pn2 hv => by
  obtain ⟨h1, Post, h2, h3⟩ := hv
  show spE c RP (vs ++ []) H2 Q E0
  rw [List.append_nil]
  exact ⟨p, cs, ns, n + c1, S2, Post, h1, g.sh, pn2, by omega, h2, fun v S' H' g' pn' hv' => q v S' H' (g.trans g') (pn'.le (by omega)) (h3 _ _ hv')⟩
theorem sAsgPen {i j : Nat} {sp : Sp} {E : XK} (hi : σ[j]? = some (some v)) (q : sp [v] H (fun u H2 => D.nx (σ.set i (some u)) H2) E) : tAsg (tCall sp [] E (tCons (tVar j) tNil)) (gName i) D σ H := ⟨v, hi, q⟩
theorem fForRW {ts : TS} {hi : Int} (h0 : 0 ≤ hi ∧ hi ≤ 1000) (Pv : Nat → L2.St → Hp → Prop) (p0 : Pv 0 σ H) (hs : ∀ (i : Nat) σ' H' (N : L2.St → Hp → Prop), (i : Int) < hi → Pv i σ' H' → (∀ σ3 H3, Pv (i + 1) σ3 H3 → N σ3 H3) → g (.int (0 + (i : Int))) σ' H' fun σ2 H2 => ts { D with nx := N, ct := N, bk := D.nx } σ2 H2)
    (hd : ∀ σ' H', Pv hi.toNat σ' H' → D.nx σ' H') : tFor (iRng1 (tCons (tC (.int hi)) tNil)) g ts D σ H :=
  ⟨hi, rfl, by omega, by omega, for_range Pv p0 (fun i σ' H' hi' hp => hs i σ' H' _ (by omega) hp fun _ _ h => h) hd⟩
/-- name = f([.. for x in g(..)]), g under a promise of its own -/
theorem asgFnW {rc : List V → Hp → VK → Prop} {sp : Sp} {E : XK} {RA : Hp → List V → Prop} {i : Nat} (h : GA t σ S RA) (sS : Same S H) (q : ∀ us S1 H1, Gr [] S H S1 H1 → RA S1 us → sp us H1 (fun x H2 => tAsg (tCB rc (tCons (tLc (iList K (tC x)) g tt te vs) tNil)) (gName i) D σ H2) E) :
    tAsg (tCB rc (tCons (tLc (iList K (tCall sp [] E t)) g tt te vs) tNil)) (gName i) D σ H :=
  h S H (Same.refl _) sS _ fun us S1 H1 g1 hv => by
    show sp (us ++ []) H1 (fun x H2 => tAsg (tCB rc (tCons (tLc (iList K (tC x)) g tt te vs) tNil)) (gName i) D σ H2) E
    rw [List.append_nil]
    exact q us S1 H1 g1 hv
theorem asgLcW {sp : Sp} {E : XK} {RA : Hp → List V → Prop} {i : Nat} (h : GA t σ S RA) (sS : Same S H) (q : ∀ us S1 H1, Gr [] S H S1 H1 → RA S1 us → sp us H1 (fun x H2 => tAsg (tLc (iList K (tC x)) g tt te vs) (gName i) D σ H2) E) :
    tAsg (tLc (iList K (tCall sp [] E t)) g tt te vs) (gName i) D σ H :=
  h S H (Same.refl _) sS _ fun us S1 H1 g1 hv => by
    show sp (us ++ []) H1 (fun x H2 => tAsg (tLc (iList K (tC x)) g tt te vs) (gName i) D σ H2) E
    rw [List.append_nil]
    exact q us S1 H1 g1 hv
theorem gAndF {Pp : Prop} (h : Gv te σ S fun S' x => ∃ b, x = .bl b ∧ (b = true → Pp)) (h2 : Pp → GT tu σ S false) : GT (tAnd (tB te) tu) σ S false := fun S1 H e c Q q => h S1 H e c _ fun x S2 H2 g hx => by
  obtain ⟨b, rfl, hb⟩ := hx
  refine ⟨b, rfl, ?_⟩
  cases b with
  | true => exact iteT ((h2 (hb rfl)) S2 H2 (e.trans g.ss) g.sh Q fun S3 H3 g3 => q S3 H3 (g.trans g3))
  | false => exact iteF (q S2 H2 g)
theorem gNotBl {a b : Bool} (ha : GD ta σ S (.bool a)) (hb : GD tb σ S (.bool b)) : GD (tOp rNotB ta tb) σ S (.bool (!decide (a = b))) := gOpD ha hb fun S2 x y e hx hy S3 H3 a3 b3 Q k => by
  cases hx
  cases hy
  exact ⟨a, b, rfl, rfl, k _ S3 H3 (Gr.refl b3) (.bl _)⟩
theorem cutA_map {α β : Type} {f : α → β} {l : List α} {lo hi : Option Int} : cutA (l.map f) lo hi = (cutA l lo hi).map f := by
  unfold cutA
  rw [List.length_map, List.map_take, List.map_drop]
end
theorem lett_ok {r : Rl} (ok : RlOk r) {l : List Nat} (h : ∀ c ∈ l, c ∈ r.letters.cps.toList) : PyData.strOk ⟨l.toArray⟩ = true := by
  refine strOk_arr fun c hc => ?_
  have := ok.lk
  unfold PyData.strOk at this
  rw [← Array.all_toList, List.all_eq_true] at this
  exact of_decide_eq_true (this c (h c hc))
section
variable {P : Program} {w : World} {K : PySem.W.Frag} {mg : Str → Option Value} {base : Heap}
def spLaw (K : PySem.W.Frag) (Pt : Addr) : Sp := fun vs H Q _ => ∃ (a : Addr) (ns : List Int), vs = [.ref a] ∧ SqL K H a (ns.map V.int) ∧ TabS H Pt lamQ ∧ ∀ H', Q (.bl true) H'
theorem callLets {σ : L2.St} {S : Hp} {r : Rl} {z : Str} {v tv : V} {ks : List Ky} {T : Tb} {i1 i2 i3 : Nat} (hR : RulesAt S v r) (ok : RlOk r) (zk : ZOk z) (hp : ks.Perm (keysL (z.length : Int))) (ht : DD S tv (rowsD ks T)) (h1 : σ[i1]? = some (some v) := by rfl) (h2 : σ[i2]? = some (some (.str z)) := by rfl) (h3 : σ[i3]? = some (some tv) := by rfl) :
    Gv (tCall (spP R_lets) [] E0 (tCons (tVar i1) (tCons (tVar i2) (tCons (tVar i3) tNil)))) σ S fun S' x => ∃ b, x = .bl b ∧ (b = true → Sound (gOf r z) (Tr T ks)) :=
  gCall (RP := R_lets) ((gA3 (mR r) (mD (.str z)) (gRul hR h1) (gV (.str z) h2) (gV ht h3)).weak fun S2 vs a hv => by
    obtain ⟨x1, x2, x3, rfl, hx1, hx2, hx3⟩ := hv
    cases hx2
    exact ⟨x1, x3, r, z, ks, T, rfl, hx1, ok, zk, hp, hx3, rfl⟩)
theorem ok_law {f Pt : Addr} {fd : FuncData} {k : Nat} (F : Fun K "law" "law" s_law f fd) (B : BI mg) (c_law_pen : Ok P w K mg base "_law_pen" ["_law_script"] 1 (spPen K)) (c_law_rules : Ok P w K mg base "_law_rules" ["_law_pen_here"] 4 (spE 1000 RpRules))
    (c_law_writ : Ok P w K mg base "_law_writ" ["_law_pen_here", "_law_given", "_law_many"] 3 (spE 30 RpWrit)) (c_law_pick : Ok P w K mg base "_law_pick" ["_law_pen_here", "_law_some"] 2 (spE 1 RpPick)) (c_law_listed : Ok P w K mg base "_law_listed" ["_law_given", "_law_writ_here", "_law_i", "_law_j"] 9 (spP (R_listed 6)))
    (c_law_whole : Ok P w K mg base "_law_whole" ["_law_given", "_law_writ_here", "_law_pairs_so"] 4 (spP R_whole)) (c_law_tables : Ok P w K mg base "_law_tables" ["_law_pen_here", "_law_given", "_law_writ_here"] 7 (spLT Pt)) (c_lets_bounds : Ok P w K mg base "lets_bounds" ["rules", "string", "thing"] 5 (spP R_lets))
    (c_law_below : Ok P w K mg base "_law_below" ["_law_given", "_law_writ_here", "_law_rows", "_law_listed_so"] 5 (spP R_below)) (c_table_of : Ok P w K mg base "table_of" ["rules", "string"] 6 (spTO Pt)) (hk : 9 ≤ k) : FnOk P w K mg base CX0 (k + 1) f fd ["_law_script"] (spLaw K Pt) := by
  refine F.ok sc_law (fun vs H Q E h => by obtain ⟨a, ns, rfl, _⟩ := h; rfl) fun cdv A outer s H vs Q E hr h => ?_
  obtain ⟨a, ns0, rfl, hS, hT, q⟩ := h
  refine ⟨_, (pss_cons (ps_set (i := 1) sc_law.nd rfl (by first | exact .inl rfl | exact .inr rfl) (pe_ok c_law_pen (hr.mono (by omega)) (by rfl) (pa_cons (pv 0) pa_nil)))
      (pss_cons (ps_for PassesOwn.never rfl (pi_range1 (by rfl) B.range (pa_cons pe_int pa_nil)) (pg_name (i := 2) sc_law.nd rfl (by first | exact .inl rfl | exact .inr rfl)) (pss_cons (ps_set (i := 3) sc_law.nd rfl (by first | exact .inl rfl | exact .inr rfl) (pe_ok c_law_rules (hr.mono (by omega)) (by rfl) (pa_cons (pv 1) pa_nil)))
      (pss_cons (ps_set (i := 4) sc_law.nd rfl (by first | exact .inl rfl | exact .inr rfl) (pe_ok c_law_writ (hr.mono (by omega)) (by rfl) (pa_cons (pv 1) (pa_cons (pv 3) (pa_cons (pe_ok c_law_pick (hr.mono (by omega)) (by rfl) (pa_cons (pv 1) (pa_cons (pe_lst (pa_cons pe_int (pa_cons pe_int (pa_cons pe_int (pa_cons pe_int (pa_cons pe_int (pa_cons pe_int pa_nil))))))) pa_nil))) pa_nil)))))
      (pss_cons (ps_set (i := 5) sc_law.nd rfl (by first | exact .inl rfl | exact .inr rfl) (pe_ok c_law_listed (hr.mono (by omega)) (by rfl) (pa_cons (pv 3) (pa_cons (pv 4) (pa_cons pe_int (pa_cons (pe_op op_sub (pe_callB (call_lenA : CallR _ _ (rLenA K)) (by rfl) B.len (by decide +kernel) (pa_cons (pv 4) pa_nil)) pe_int) pa_nil))))))
      (pss_cons (ps_set (i := 6) sc_law.nd rfl (by first | exact .inl rfl | exact .inr rfl) (pe_lc (own := [("_law_one", 7)]) (g := (gName 7)) (by rfl) sc_law.nd (pi_list (pv 5)) (blkOk_by (own := [("_law_one", 7)]) (N := ["_law_script", "_law_pen_here", "_law_turn", "_law_given", "_law_writ_here", "_law_listed_so", "_law_worths_so", "_law_one", "_law_rows", "_law_told", "_law_row", "_law_key", "_law_high"]) (sc := defScope s_law) (by decide +kernel)) (fun _ _ _ _ _ => (pg_name (i := 7) sc_law.nd rfl (by first | exact .inl rfl | exact .inr rfl))) (fun _ _ _ _ _ => pts_nil) (fun _ _ _ _ _ => (pe_ok c_law_whole (hr.mono (by omega)) (by rfl) (pa_cons (pv 3) (pa_cons (pv 4) (pa_cons (pv 7) pa_nil)))))))
      (pss_cons (ps_for PassesOwn.never rfl (pi_list (pe_ok c_law_tables (hr.mono (by omega)) (by rfl) (pa_cons (pv 1) (pa_cons (pv 3) (pa_cons (pv 4) pa_nil))))) (pg_name (i := 8) sc_law.nd rfl (by first | exact .inl rfl | exact .inr rfl)) (pss_one (ps_if (PW.pt (pw_and (pt_val (pe_ok c_lets_bounds (hr.mono (by omega)) (by rfl) (pa_cons (pv 3) (pa_cons (pv 4) (pa_cons (pv 8) pa_nil))))) (pw_and1 (pt_not (pt_val (pe_ok c_law_below (hr.mono (by omega)) (by rfl) (pa_cons (pv 3) (pa_cons (pv 4) (pa_cons (pv 8) (pa_cons (pe_slice (sl_2 : SlR _ (rSl2 K)) (pv 5) po_none (po_some pe_int)) pa_nil)))))))))) (pss_one (ps_ret pe_bl)) pss_nil)))
      (pss_cons (ps_set (i := 9) sc_law.nd rfl (by first | exact .inl rfl | exact .inr rfl) (pe_callTy (call_dictL' rfl hr.units) (by rfl) B.dict (by decide +kernel) (pa_cons (pe_lc (own := [("_law_row", 10)]) (g := (gName 10)) (by rfl) sc_law.nd (pi_list (pe_ok c_table_of (hr.mono (by omega)) (by rfl) (pa_cons (pv 3) (pa_cons (pv 4) pa_nil)))) (blkOk_by (own := [("_law_row", 10)]) (N := ["_law_script", "_law_pen_here", "_law_turn", "_law_given", "_law_writ_here", "_law_listed_so", "_law_worths_so", "_law_one", "_law_rows", "_law_told", "_law_row", "_law_key", "_law_high"]) (sc := defScope s_law) (by decide +kernel)) (fun _ _ _ _ _ => (pg_name (i := 10) sc_law.nd rfl (by first | exact .inl rfl | exact .inr rfl))) (fun _ _ _ _ _ => pts_nil) (fun _ _ _ _ _ => (pe_tup (pa_cons (pe_slice (sl_2 : SlR _ (rSl2 K)) (pv 10) po_none (po_some pe_int)) (pa_cons (pe_ix (ix_seq : IxR _ (rIx K)) (pv 10) pe_int (fun _ _ => rfl)) pa_nil))))) pa_nil)))
      (pss_cons (ps_set (i := 11) sc_law.nd rfl (by first | exact .inl rfl | exact .inr rfl) (pe_tup (pa_cons pe_str (pa_cons pe_int (pa_cons (pe_op op_sub (pe_callB (call_lenA : CallR _ _ (rLenA K)) (by rfl) B.len (by decide +kernel) (pa_cons (pv 4) pa_nil)) pe_int) pa_nil)))))
      (pss_cons (ps_if (pt_cmpR (op_neD hr.units : OpR _ _ (rNeD K)) (pe_dget (hu_of hr) (pv 9) (pv 11) (fun _ _ => rfl)) (pe_callB (cr_min rfl : CallR _ _ (rMin K)) (by rfl) B.min (by decide +kernel) (pa_cons (pv 6) pa_nil)) (nomark _)) (pss_one (ps_ret pe_bl)) pss_nil)
      (pss_cons (ps_setLc (i := 12) (own := [("_law_row", 10)]) (g := (gName 10)) (by rfl) sc_law.nd rfl rfl (sw_true rfl rfl rfl (by decide +kernel)) (pi_list (pe_ok c_table_of (hr.mono (by omega)) (by rfl) (pa_cons (pv 3) (pa_cons (pv 4) pa_nil)))) (blkOk_by (own := [("_law_row", 10)]) (N := ["_law_script", "_law_pen_here", "_law_turn", "_law_given", "_law_writ_here", "_law_listed_so", "_law_worths_so", "_law_one", "_law_rows", "_law_told", "_law_row", "_law_key", "_law_high"]) (sc := defScope s_law) (by decide +kernel)) (fun _ _ _ _ _ => (pg_name (i := 10) sc_law.nd rfl (by first | exact .inl rfl | exact .inr rfl))) (fun _ _ _ _ _ => pts_nil) (fun _ _ _ _ _ => (pe_op (op_add4 : OpR _ _ (rAdd4 K)) (pe_slice (sl_2 : SlR _ (rSl2 K)) (pv 10) po_none (po_some pe_int)) (pe_tup (pa_cons (pe_ix (ix_seq : IxR _ (rIx K)) (pe_lst (pa_cons (pe_ix (ix_seq : IxR _ (rIx K)) (pv 10) pe_int (fun _ _ => rfl)) (pa_cons (pe_op (op_add4 : OpR _ _ (rAdd4 K)) (pe_callB (cr_min rfl : CallR _ _ (rMin K)) (by rfl) B.min (by decide +kernel) (pa_cons (pv 6) pa_nil)) pe_int) pa_nil))) (pe_callTy call_int1 (by rfl) B.int (by decide +kernel) (pa_cons (pe_cmpR (op_eqD hr.units : OpR _ _ (rEqD K)) (pe_slice (sl_2 : SlR _ (rSl2 K)) (pv 10) po_none (po_some pe_int)) (pv 11) (nomark _)) pa_nil)) (fun _ _ => rfl)) pa_nil)))))
      (pss_one (ps_if (pt_cmpR op_notBl (pe_ok c_lets_bounds (hr.mono (by omega)) (by rfl) (pa_cons (pv 3) (pa_cons (pv 4) (pa_cons (pv 12) pa_nil)))) pe_bl (nomark _)) (pss_one (ps_ret pe_bl)) pss_nil))))))))))))
      (pss_one (ps_ret pe_bl)))), ?_⟩
  refine sAsgPen rfl ?_
  refine ⟨a, ns0, fun _ => none, rfl, hS, (fun b o e => nomatch e), fun p cs ns S0 H0 g0 np pn0 => ?_⟩
  have nt0 : NoT S0 := g0.nt fun b ps e => nomatch e
  have hT0 := PF.TabS.gr hT g0
  refine fForRW (by decide) (fun i σ' H' => ∃ S' e2 e3 e4 e5 e6 e7 e8 e9 e10 e11 e12, σ' = [some (.ref a), some (.ref p), e2, e3, e4, e5, e6, e7, e8, e9, e10, e11, e12] ∧ Run p cs ns Pt (1500 * i) S0 H0 S' H') ⟨S0, _, _, _, _, _, _, _, _, _, _, _, rfl, Run.start g0.sh pn0 nt0 hT0⟩ (fun i σ' H1 N hi hI hN => ?_) fun σ' H' hI => ?_
  · obtain ⟨S1, e2, e3, e4, e5, e6, e7, e8, e9, e10, e11, e12, rfl, r1⟩ := hI
    have hPB : PB = 1000000 := rfl
    refine eAsg (n := 1500 * i) (eCall (c := 1000) (RP := RpRules) (R := fun S' v => ∃ r, RlOk r ∧ 1 ≤ r.letters.length ∧ RulesAt S' v r) ((ga1 (gvI (mV (.ref p)) rfl)).weak fun S2 vs e hv => ?_)) r1.g.sh r1.pn (by omega) fun gv S2 H2 g2 pn2 hgv => ?_
    · obtain ⟨x, rfl, rfl⟩ := hv
      exact ⟨rfl, rfl, rfl⟩
    obtain ⟨r, ok, l1, hR⟩ := hgv
    have r2 := r1.pen g2 pn2
    refine eAsg (n := 1500 * i + 1000) (c := 0 + (0 + (1 + 0)) + 30) (eCallX (RP := RpWrit) (R := fun S' v => ∃ l : List Nat, (l.length ≤ 7 ∧ ∀ c ∈ l, c ∈ r.letters.cps.toList) ∧ v = .str ⟨l.toArray⟩) (eaCons' (gvI (mV (.ref p)) rfl).e fun S3 y1 e3 hy1 => eaCons' (Gv.e (gRul (hR.mono e3))) fun S4 y2 e4 hy2 => eaCons' (ePickL (ds := ([5, 6, 0, 1, 3, 7] : List Int).map .int) (eLst (gaCons gInt (gaCons gInt (gaCons gInt (gaCons gInt (gaCons gInt (gaCons gInt gaNil))))))) (by decide) (by decide)) fun S5 y3 e5 hy3 => eaNil.weak fun S6 vs e6 hvs => ?_)) r2.g.sh r2.pn (by omega) fun zv S3 H3 g3 pn3 hzv => ?_
    · subst hvs
      subst hy1
      obtain ⟨d, hd, hy3⟩ := hy3
      obtain ⟨m, hm, rfl⟩ := List.mem_map.mp hd
      cases hy3
      have hmb : 0 ≤ m ∧ m ≤ 7 := by simp at hm; omega
      exact ⟨rfl, _, ⟨y2, r, m, rfl, (hy2.mono e5).mono e6, l1, ok.nl, hmb.1, hmb.2, rfl⟩, fun S7 v7 h7 => by
        obtain ⟨l, ⟨h1, h2⟩, h3⟩ := h7
        exact ⟨l, ⟨by omega, h2⟩, h3⟩⟩
    obtain ⟨l, ⟨ll, lc⟩, rfl⟩ := hzv
    have r3 := r2.pen g3 pn3
    have zlen : (⟨l.toArray⟩ : Str).length = l.length := rfl
    have zk : ZOk ⟨l.toArray⟩ := ⟨by omega, lett_ok ok lc⟩
    have zc : ∀ c ∈ (⟨l.toArray⟩ : Str).cps.toList, c ∈ r.letters.cps.toList := fun c hc => lc c hc
    generalize hz : (⟨l.toArray⟩ : Str) = z at *
    have z7 : z.length ≤ 7 := by omega
    have hzs := Nat.le_trans zk.le (show 12 ≤ sizeLine by decide)
    have hR3 := hR.mono g3.ss
    refine sAsg (callListed (m := 6) (gRul hR3) (gV (.str z)) gInt (eSub (gLenS (gV (.str z)) hzs) gInt) z7 (by decide) (by omega) (by omega)) r3.g.sh fun lv S4 H4 g4 hlv => ?_
    have r4 := r3.gr g4
    have hfo : ∀ fo ∈ listF (gOf r z) 6 0 ((z.length : Int) - 1), Fold (gOf r z) 0 ((z.length : Int) - 1) fo := fun fo h => (mem_listF 6 0 _ fo (by omega)).mp h
    have hfi : ∀ fo, Fold (gOf r z) 0 ((z.length : Int) - 1) fo → fo ∈ listF (gOf r z) 6 0 ((z.length : Int) - 1) := fun fo h => (mem_listF 6 0 _ fo (by omega)).mpr h
    have lfl : (listF (gOf r z) 6 0 ((z.length : Int) - 1)).length ≤ 39760 := Nat.le_trans (listF_len 6 0 _ 6 (by omega) (by omega)) (by rw [NB6]; exact Nat.le_refl _)
    generalize listF (gOf r z) 6 0 ((z.length : Int) - 1) = fos at hlv hfo hfi lfl
    have hR4 := hR3.mono g4.ss
    refine sAsg (gLc1 fos eFo (fun fo => .int (wholeW (gOf r z) fo)) (gV hlv) (Nat.le_trans lfl (by decide)) fun fo hf u S5 e hu => turnN rfl gYes fun _ => callWhole (gRul (hR4.mono e)) (gV (.str z)) (gV hu) ok zk (prOk_fold zk.le (hfo fo hf))) r4.g.sh fun wv S5 H5 g5 hwv => ?_
    have r5 := r4.gr g5
    have hwv : DD S5 wv (.list ((fos.map (wholeW (gOf r z))).map .int)) := by rw [List.map_map]; exact hwv
    have hR5 := hR4.mono g5.ss
    have hlv5 := hlv.mono g5.ss
    have gn : 0 ≤ (gOf r z).n := Int.natCast_nonneg _
    show tFor (iList K (tCall (spLT Pt) [] E0 (tCons (tVar 1) (tCons (tVar 3) (tCons (tVar 4) tNil))))) (gName 8) _ _ _ _
    refine fForW eTb (fun S6 H6 ts => Run p cs ns Pt (1500 * i + 1431) S0 H0 S6 H6 ∧ Same S5 S6 ∧ (∀ t ∈ ts, t.1.Perm (keysL (z.length : Int)))) (fun Q' q' => ?_) fun S6 H6 ts hP sS6 => ?_
    · refine ⟨.ref p, rfl, gv, rfl, .str z, rfl, ?_⟩
      refine ⟨p, cs, ns, 1500 * i + 1031, S5, gv, r, z, rfl, hR5, ok, zk, zc, r5.g.sh, r5.nt, r5.tb, r5.pn.le (by omega), by omega, fun x S6 H6 r6 hts => ?_⟩
      obtain ⟨ts, _, tp, ht⟩ := hts
      exact q' x S6 H6 ts ⟨(r5.trans r6).le (by omega), r6.g.ss, tp⟩ r6.g.sh ht
    · obtain ⟨r6, s56, tp⟩ := hP
      have hR6 := hR5.mono s56
      have hlv6 := hlv5.mono s56
      have hwv6 := hwv.mono s56
      refine ⟨[], fun j σ' S' H' => ∃ e8, σ' = [some (.ref a), some (.ref p), some (.int (0 + (i : Int))), some gv, some (.str z), some lv, some wv, e7, e8, e9, e10, e11, e12], ⟨_, rfl⟩, fun j tb u σ' S7 H7 N2 htb g7 hu hI2 hN2 => ?_, fun σ' S7 H7 g7 hI2 => ?_⟩
      · obtain ⟨e8', rfl⟩ := hI2
        have hp := tp tb (List.mem_of_getElem? htb)
        have hR7 := hR6.mono g7.ss
        refine sIf (b := false) (gAndF (callLets hR7 ok zk hp hu) fun hso => gNot (a := true) (gB ?_)) g7.sh (fun h => by cases h) fun _ S8 H8 g8 => hN2 _ S8 _ g8 ⟨_, rfl⟩
        refine (gCall (RP := R_below) (R := fun S' x => ∃ b, DD S' x (.bool b) ∧ ((∀ f ∈ cutA fos none (some 60), Below (gOf r z) (Tr tb.2 tb.1) f) → b = true)) ((gA4 (mR r) (mD (.str z)) (mD (eTb tb)) (gRul hR7) (gV (.str z)) (gV hu) (GD.is (gSlL (gV (hlv6.mono g7.ss)) goNo (goPart gInt)) (congrArg PyData.list cutA_map))).weak fun S8 vs e hv => ?_)).weak fun S8 x _ hx => ?_
        · obtain ⟨x1, x2, x3, x4, rfl, hx1, hx2, hx3, hx4⟩ := hv
          cases hx2
          exact ⟨x1, x3, x4, r, z, tb.1, tb.2, cutA fos none (some 60), rfl, hx1, ok, zk, hp, hx3, hx4, fun f hf => hfo f (cutA_sub f hf), rfl⟩
        · obtain ⟨b, hb, hx⟩ := hx
          rw [hx fun f hf => below_of hso gn (hfo f (cutA_sub f hf))] at hb
          exact hb
      · obtain ⟨e8', rfl⟩ := hI2
        have r7 := r6.gr g7
        have hR7 := hR6.mono g7.ss
        have hwv7 := hwv6.mono g7.ss
        refine asgFnW (gA2 (mR r) (gRul hR7) (gV (.str z))) r7.g.sh fun vs S8 H8 g8 hv => ?_
        obtain ⟨x, y, rfl, hx, hy⟩ := hv
        cases hy
        have r8 := r7.gr g8
        refine ⟨S8, x, r, z, rfl, hx, ok, zk, zc, g8.sh, r8.nt, r8.tb, fun tv S9 H9 gw9 hT9 hK => ?_⟩
        obtain ⟨ks, Kt, hp, hF, ht⟩ := hK
        have r9 := r8.gw gw9 hT9
        have ndk : ks.Nodup := hp.nodup_iff.mpr (keysL_nodup _)
        have lk : ks.length ≤ 1000 := rows_len hp (by omega)
        refine sAsg (gDictRows (gC (R := fun S' x => DD S' x (rowsD ks Kt)) fun S' e => ht.mono e) ndk lk (fun x => rfl) fun x => rfl) r9.g.sh fun dv S10 H10 g10 hd => ?_
        have r10 := r9.gr g10
        refine sAsg (eTup (gaCons gStr (gaCons gInt (gaCons (eSub (gLenS (gV (.str z)) hzs) gInt) gaNil)))) r10.g.sh fun kv S11 H11 g11 hkv => ?_
        have r11 := r10.gr g11
        have hkv : DD S11 kv (eKy (.opn, 0, (z.length : Int) - 1)) := hkv
        obtain ⟨wm, hwm, ⟨f0, hf0, ef0⟩, hmin⟩ := least_open hF gn
        have gnz : (gOf r z).n = (z.length : Int) := rfl
        rw [gnz] at hwm hf0 hmin
        have k0 : ((Kd.opn, 0, (z.length : Int) - 1) : Ky) ∈ ks := hp.mem_iff.mpr (mem_keysL.mpr ⟨Int.le_refl _, by omega, rfl⟩)
        have hmem : wm ∈ fos.map (wholeW (gOf r z)) := List.mem_map.mpr ⟨f0, hfi f0 hf0, ef0⟩
        have hle : ∀ y ∈ fos.map (wholeW (gOf r z)), wm ≤ y := fun y hy => by
          obtain ⟨fo, hf, rfl⟩ := List.mem_map.mp hy
          exact hmin fo (hfo fo hf)
        have hmn : ∀ {σ : L2.St} {S2 : Hp}, Same S7 S2 → σ[6]? = some (some wv) → GD (tCB (rMin K) (tCons (tVar 6) tNil)) σ S2 (.int wm) := fun {σ S2} e h6 => gMinL (R := fun S' x => DD S' x (.int wm)) (gV (hwv7.mono e) h6) (List.length_pos_of_mem hmem) fun S' m' _ h1 h2 => by
          obtain rfl : m' = wm := Int.le_antisymm (h2 wm hmem) (hle m' h1)
          exact .int _
        have s711 : Same S7 S11 := (g8.ss.trans gw9.ss).trans (g10.ss.trans g11.ss)
        have hdv := (rows_dict Kt ks).val _ k0
        have hTr : Tr Kt ks (.opn, 0, (z.length : Int) - 1) = some wm := by unfold Tr; rw [if_pos k0]; exact hwm
        rw [hTr] at hdv
        have htest : GT (tTest (tOp (rNeD K) (tDGet (tVar 9) (tVar 11)) (tCB (rMin K) (tCons (tVar 6) tNil)))) [some (.ref a), some (.ref p), some (.int (0 + (i : Int))), some gv, some (.str z), some lv, some wv, e7, e8', some dv, e10, some kv, e12] S11 false :=
          gTest (GD.is (gNeD (b := true) (gAtT (R := fun S' x => DD S' x (.int wm)) (k := kyL (.opn, 0, (z.length : Int) - 1)) (gvI (mDT _) (mDT _ _ _ _ g11.ss hd)) (gV hkv) hdv fun _ _ => .int wm) (hmn s711 rfl) rfl rfl (by rw [PyData.eqv]; simp)) rfl)
        refine sIf (b := false) htest r11.g.sh (fun h => by cases h) fun _ S12 H12 g12 => ?_
        have r12 := r11.gr g12
        have hR12 := (hR7.mono s711).mono g12.ss
        refine asgLcW (gA2 (mR r) (gRul hR12) (gV (.str z))) r12.g.sh fun vs S13 H13 g13 hv => ?_
        obtain ⟨x, y, rfl, hx, hy⟩ := hv
        cases hy
        have r13 := r12.gr g13
        refine ⟨S13, x, r, z, rfl, hx, ok, zk, zc, g13.sh, r13.nt, r13.tb, fun tv2 S14 H14 gw14 hT14 hK => ?_⟩
        obtain ⟨ks2, Kt2, hp2, hF2, ht2⟩ := hK
        have r14 := r13.gw gw14 hT14
        have lk2 : ks2.length ≤ 1000 := rows_len hp2 (by omega)
        have s1114 := (g12.ss.trans g13.ss).trans gw14.ss
        have hkv14 := hkv.mono s1114
        refine sAsg (gLc1 ks2 (fun k => eRow k (Kt2 k)) (fun k => eRow k (setT Kt2 (.opn, 0, (z.length : Int) - 1) (some (wm + 1)) k)) (gC (R := fun S' x => DD S' x (rowsD ks2 Kt2)) fun S' e => ht2.mono e) (Nat.le_trans lk2 (by decide)) fun key hkey u S15 e hu => turnN rfl gYes fun _ => ?_) r14.g.sh fun hv S15 H15 g15 hhv => ?_
        · refine gAddT (ds := [.str (kdS key.1), .int key.2.1, .int key.2.2]) (es := [oD (setT Kt2 (.opn, 0, (z.length : Int) - 1) (some (wm + 1)) key)]) (GD.is (gSlT (gV hu) goNo (goPart gInt)) rfl) (eTup (gaCons (gIxL (ds := [oD (Kt2 key), .int (wm + 1)]) (eLst (gaCons (gIxT (gV hu) gInt (atI_nat (j := 3) rfl)) (gaCons (gAddI (hmn ((s711.trans s1114).trans e) rfl) gInt) gaNil))) (gIntB (gEqD (GD.is (gSlT (gV hu) goNo (goPart gInt)) rfl) (gV (hkv14.mono e)) sh_key sh_key eqv_key)) ?_) gaNil)) (by show 3 + 1 ≤ sizeLine; decide)
          unfold setT
          by_cases hc : key = (.opn, 0, (z.length : Int) - 1)
          · rw [if_pos hc, decide_eq_true (show ((key.1, key.2.1, key.2.2) : Ky) = (.opn, 0, (z.length : Int) - 1) from hc)]
            exact atI_nat (j := 1) rfl
          · rw [if_neg hc, decide_eq_false (show ¬ ((key.1, key.2.1, key.2.2) : Ky) = (.opn, 0, (z.length : Int) - 1) from hc)]
            exact atI_nat (j := 0) rfl
        have r15 := r14.gr g15
        have hR15 := hR12.mono ((g13.ss.trans gw14.ss).trans g15.ss)
        have hhv : DD S15 hv (rowsD ks2 (fun k => setT Kt2 (.opn, 0, (z.length : Int) - 1) (some (wm + 1)) k)) := hhv
        have k2 : ((Kd.opn, 0, (z.length : Int) - 1) : Ky) ∈ ks2 := hp2.mem_iff.mpr (mem_keysL.mpr ⟨Int.le_refl _, by omega, rfl⟩)
        refine sIf (b := false) (gTest (GD.is (gNotBl (a := false) (b := false) (Gv.weak (callLets hR15 ok zk hp2 hhv) fun S16 x _ hx => ?_) gBl) rfl)) r15.g.sh (fun h => by cases h) fun _ S16 H16 g16 => ?_
        · obtain ⟨b, rfl, hb⟩ := hx
          cases b with
          | false => exact .bl false
          | true =>
            obtain ⟨x, h1, h2⟩ := (below_of (hb rfl) gn (by rw [gnz]; exact hf0)).1
            rw [gnz] at h1
            unfold Tr setT at h1
            rw [if_pos k2] at h1
            have h1 : (if ((Kd.opn, 0, (z.length : Int) - 1) : Ky) = (.opn, 0, (z.length : Int) - 1) then some (wm + 1) else Kt2 (.opn, 0, (z.length : Int) - 1)) = some x := h1
            rw [if_pos rfl] at h1
            have := Option.some.inj h1
            omega
        · exact hN _ _ ⟨S16, _, _, _, _, _, _, _, _, _, _, _, rfl, (r15.gr g16).le (by omega)⟩
  · obtain ⟨S', e2, e3, e4, e5, e6, e7, e8, e9, e10, e11, e12, rfl, r1⟩ := hI
    exact q H'
end
end PF
-- part PfU1
set_option Elab.async false
set_option linter.all false
set_option maxRecDepth 100000
set_option maxHeartbeats 4000000
/-! the defs together -/
namespace PF
open PySem PySem.Spec PyProof.Rows L2 LamX NdefX
section
variable {P : Program} {w : World} {K : PySem.W.Frag} {mg : Str → Option Value} {base : Heap} {x : Str} {st : Stmt} {ps : List Str} {f : Addr} {fd : FuncData} {sp : Sp} {k : Nat}
theorem fun_of (F : FunD K x x (defArgs st) (defBody st) (defScope st) [] [] f fd) : Fun K x x st f fd := by
  obtain ⟨oc, od, dV, kV, doc, pm, an, cdv, ct, osl, e, lk, hcd, hd, _⟩ := F.ex
  rcases hd with ⟨_, rfl⟩ | ⟨h, _⟩
  · exact ⟨⟨oc, od, kV, doc, pm, an, cdv, ct, osl, e, lk, hcd⟩, F.kp⟩
  · exact absurd rfl h
def HasF (K : PySem.W.Frag) (mg : Str → Option Value) (x : Str) (st : Stmt) (ps : List Str) : Prop := ∃ f fd, Fun K x x st f fd ∧ mg x = some (.ref f) ∧ Binds K fd ps []
theorem hasF (F : FunD K x x (defArgs st) (defBody st) (defScope st) [] [] f fd) (g : mg x = some (.ref f))
    (hb : ∀ (kV doc pm : Value) (an : Option Addr) (cdv ct : Value) (us : List Value), us.length = ps.length → bindArgs (PySem.W.fnOf x x (defArgs st) (defBody st) (defScope st) .none kV doc pm an cdv ct) ⟨us, []⟩ = pure (ps.zip us)) : HasF K mg x st ps :=
  ⟨f, fd, fun_of F, g, FunD.bindsN F hb⟩
theorem Ok.mk (h : HasF K mg x st ps) (ok : ∀ f fd, Fun K x x st f fd → FnOk P w K mg base CX0 k f fd ps sp) : Ok P w K mg base x ps k sp := by
  obtain ⟨f, fd, F, g, b⟩ := h
  exact ⟨f, fd, ok f fd F, g, F.kp, b⟩
theorem func_of (F : FunD K x x (defArgs st) (defBody st) (defScope st) [] [] (He.fAd K (x, none)) fd) : FunC K x x st (He.fAd K (x, none)) fd (He.codeOf K (x, none)) := by
  obtain ⟨oc, od, dV, kV, doc, pm, an, cdv, ct, osl, e, lk, hcd, hd, _⟩ := F.ex
  obtain ⟨c, rfl⟩ := He.codeIn_ref hcd
  have hc : He.codeOf K (x, none) = c := He.codeOf_eq lk (by rw [e] <;> rfl)
  rw [hc]
  rcases hd with ⟨_, rfl⟩ | ⟨h, _⟩
  · exact ⟨oc, od, kV, doc, pm, an, ct, osl, e, lk, hcd⟩
  · exact absurd rfl h
end
/-- the head's facts -/
structure Facts (K : PySem.W.Frag) (mg : Str → Option Value) : Prop where
  B : BI mg
  mMost : ∃ t, mg "MOST_PLACES" = some (.int 12 t)
  mLoops : mg "LOOPS" = some (.ref (He.ga K "LOOPS"))
  hL : ∀ H, SqT K H (He.ga K "LOOPS") (loopWs.map V.str)
  f_pair_worth : HasF K mg "pair_worth" s_pair_worth ["rules", "both"]
  f_stack_worth : HasF K mg "stack_worth" s_stack_worth ["rules", "outer", "within"]
  f_is_string : HasF K mg "is_string" s_is_string ["rules", "thing"]
  f_need_string : HasF K mg "need_string" s_need_string ["rules", "thing"]
  f_both_of : HasF K mg "both_of" s_both_of ["string", "i", "j"]
  f_may_pair : HasF K mg "may_pair" s_may_pair ["rules", "string", "i", "j"]
  f_row_keys : HasF K mg "row_keys" s_row_keys ["many"]
  f_told_loops : HasF K mg "told_loops" s_told_loops ["rules"]
  f_within_ways : HasF K mg "within_ways" s_within_ways ["rules", "string", "first", "last"]
  f_shut_ways : HasF K mg "shut_ways" s_shut_ways ["rules", "string", "first", "last"]
  f_one_ways : HasF K mg "one_ways" s_one_ways ["rules", "first", "last"]
  f_two_ways : HasF K mg "two_ways" s_two_ways ["rules", "first", "last"]
  f_open_ways : HasF K mg "open_ways" s_open_ways ["rules", "first", "last"]
  f_ways_of : HasF K mg "ways_of" s_ways_of ["rules", "string", "key"]
  f_come_to : HasF K mg "come_to" s_come_to ["way", "known"]
  f_is_worth : HasF K mg "is_worth" s_is_worth ["thing"]
  f_is_row : HasF K mg "is_row" s_is_row ["thing", "key"]
  f_is_no_more : HasF K mg "is_no_more" s_is_no_more ["worth", "found"]
  f_lets_bounds : HasF K mg "lets_bounds" s_lets_bounds ["rules", "string", "thing"]
  f_least_of : HasF K mg "least_of" s_least_of ["worths"]
  f_filling_order : HasF K mg "filling_order" s_filling_order ["many"]
  f_known_rows : HasF K mg "known_rows" s_known_rows ["rules", "string"]
  f_table_of : HasF K mg "table_of" s_table_of ["rules", "string"]
  f_law_pen : HasF K mg "_law_pen" s_law_pen ["_law_script"]
  f_law_draw : HasF K mg "_law_draw" s_law_draw ["_law_pen_here", "_law_many"]
  f_law_pick : HasF K mg "_law_pick" s_law_pick ["_law_pen_here", "_law_some"]
  f_law_worth : HasF K mg "_law_worth" s_law_worth ["_law_pen_here"]
  f_law_rules : HasF K mg "_law_rules" s_law_rules ["_law_pen_here"]
  f_law_writ : HasF K mg "_law_writ" s_law_writ ["_law_pen_here", "_law_given", "_law_many"]
  f_law_fits : HasF K mg "_law_fits" s_law_fits ["_law_given", "_law_writ_here", "_law_i", "_law_j"]
  f_law_listed : HasF K mg "_law_listed" s_law_listed ["_law_given", "_law_writ_here", "_law_i", "_law_j"]
  f_law_straight : HasF K mg "_law_straight" s_law_straight ["_law_pairs_so", "_law_low", "_law_high"]
  f_law_loop : HasF K mg "_law_loop" s_law_loop ["_law_given", "_law_writ_here", "_law_pairs_so", "_law_pair_so"]
  f_law_shut : HasF K mg "_law_shut" s_law_shut ["_law_given", "_law_writ_here", "_law_pairs_so"]
  f_law_whole : HasF K mg "_law_whole" s_law_whole ["_law_given", "_law_writ_here", "_law_pairs_so"]
  f_law_come : HasF K mg "_law_come" s_law_come ["_law_known", "_law_own", "_law_keys_here"]
  f_law_shut_ways : HasF K mg "_law_shut_ways" s_law_shut_ways ["_law_given", "_law_writ_here", "_law_i", "_law_j"]
  f_law_ways : HasF K mg "_law_ways" s_law_ways ["_law_given", "_law_writ_here", "_law_key"]
  f_law_keys : HasF K mg "_law_keys" s_law_keys ["_law_many"]
  f_law_least_rows : HasF K mg "_law_least_rows" s_law_least_rows ["_law_given", "_law_writ_here", "_law_caps"]
  f_law_cheaper : HasF K mg "_law_cheaper" s_law_cheaper ["_law_pen_here", "_law_given"]
  f_law_tables : HasF K mg "_law_tables" s_law_tables ["_law_pen_here", "_law_given", "_law_writ_here"]
  f_law_below : HasF K mg "_law_below" s_law_below ["_law_given", "_law_writ_here", "_law_rows", "_law_listed_so"]
  fo : ∃ fd, FunC K "filling_order" "filling_order" s_filling_order (He.fAd K ("filling_order", none)) fd (He.codeOf K ("filling_order", none)) ∧ mg "filling_order" = some (.ref (He.fAd K ("filling_order", none))) ∧ PySem.W.keepIn K (.ref (He.fAd K ("filling_order", none))) = true ∧ Binds K fd ["many"] []
section
variable {P : Program} {w : World} {K : PySem.W.Frag} {mg : Str → Option Value} {base : Heap} {f Pt : Addr} {fd : FuncData}
theorem law_all (C : Facts K mg) (TB : TabB base mg (He.codeOf K ("filling_order", none)) Pt) (F : Fun K "law" "law" s_law f fd) : FnOk P w K mg base CX0 10 f fd ["_law_script"] (spLaw K Pt) := by
  have B := C.B
  have mMost := C.mMost
  have mLoops := C.mLoops
  have hL := C.hL
  have c_pair_worth : Ok P w K mg base "pair_worth" ["rules", "both"] 1 (spP R_pair_worth) := Ok.mk C.f_pair_worth fun f fd F => ok_pair_worth F B
  have c_stack_worth : Ok P w K mg base "stack_worth" ["rules", "outer", "within"] 1 (spP R_stack_worth) := Ok.mk C.f_stack_worth fun f fd F => ok_stack_worth F B
  have c_is_string : Ok P w K mg base "is_string" ["rules", "thing"] 1 (spP R_is_string) := Ok.mk C.f_is_string fun f fd F => ok_is_string F B mMost
  have c_need_string : Ok P w K mg base "need_string" ["rules", "thing"] 2 (spP R_need_string) := Ok.mk C.f_need_string fun f fd F => ok_need_string F c_is_string (by decide)
  have c_both_of : Ok P w K mg base "both_of" ["string", "i", "j"] 1 (spP R_both_of) := Ok.mk C.f_both_of fun f fd F => ok_both_of F
  have c_may_pair : Ok P w K mg base "may_pair" ["rules", "string", "i", "j"] 2 (spP R_may_pair) := Ok.mk C.f_may_pair fun f fd F => ok_may_pair F c_both_of c_pair_worth (by decide)
  have c_row_keys : Ok P w K mg base "row_keys" ["many"] 1 (spP R_row_keys) := Ok.mk C.f_row_keys fun f fd F => ok_row_keys F B
  have c_told_loops : Ok P w K mg base "told_loops" ["rules"] 1 (spP R_told_loops) := Ok.mk C.f_told_loops fun f fd F => ok_told_loops F B mLoops hL
  have c_within_ways : Ok P w K mg base "within_ways" ["rules", "string", "first", "last"] 2 (spP R_within_ways) := Ok.mk C.f_within_ways fun f fd F => ok_within_ways F B c_told_loops c_stack_worth (by decide)
  have c_shut_ways : Ok P w K mg base "shut_ways" ["rules", "string", "first", "last"] 3 (spP R_shut_ways) := Ok.mk C.f_shut_ways fun f fd F => ok_shut_ways F B c_told_loops c_may_pair c_within_ways c_pair_worth (by decide)
  have c_one_ways : Ok P w K mg base "one_ways" ["rules", "first", "last"] 2 (spP R_one_ways) := Ok.mk C.f_one_ways fun f fd F => ok_one_ways F B c_told_loops (by decide)
  have c_two_ways : Ok P w K mg base "two_ways" ["rules", "first", "last"] 2 (spP R_two_ways) := Ok.mk C.f_two_ways fun f fd F => ok_two_ways F B c_told_loops (by decide)
  have c_open_ways : Ok P w K mg base "open_ways" ["rules", "first", "last"] 2 (spP R_open_ways) := Ok.mk C.f_open_ways fun f fd F => ok_open_ways F B c_told_loops (by decide)
  have c_ways_of : Ok P w K mg base "ways_of" ["rules", "string", "key"] 4 (spP R_ways_of) := Ok.mk C.f_ways_of fun f fd F => ok_ways_of F c_shut_ways c_one_ways c_two_ways c_open_ways (by decide)
  have c_come_to : Ok P w K mg base "come_to" ["way", "known"] 1 (spP R_come_to) := Ok.mk C.f_come_to fun f fd F => ok_come_to F B
  have c_is_worth : Ok P w K mg base "is_worth" ["thing"] 1 (spP R_is_worth) := Ok.mk C.f_is_worth fun f fd F => ok_is_worth F B
  have c_is_row : Ok P w K mg base "is_row" ["thing", "key"] 2 (spP R_is_row) := Ok.mk C.f_is_row fun f fd F => ok_is_row F B c_is_worth (by decide)
  have c_is_no_more : Ok P w K mg base "is_no_more" ["worth", "found"] 1 (spP R_is_no_more) := Ok.mk C.f_is_no_more fun f fd F => ok_is_no_more F
  have c_lets_bounds : Ok P w K mg base "lets_bounds" ["rules", "string", "thing"] 5 (spP R_lets) := Ok.mk C.f_lets_bounds fun f fd F => ok_lets_bounds F B c_row_keys c_is_row c_is_no_more c_come_to c_ways_of (by decide)
  have c_least_of : Ok P w K mg base "least_of" ["worths"] 1 (spP R_least_of) := Ok.mk C.f_least_of fun f fd F => ok_least_of F B
  have c_filling_order : Ok P w K mg base "filling_order" ["many"] 4 (spFO Pt) := by
    obtain ⟨fd, F, g, kp, b⟩ := C.fo
    exact ⟨_, fd, ok_filling_order F B TB c_row_keys (by decide), g, kp, b⟩
  have c_known_rows : Ok P w K mg base "known_rows" ["rules", "string"] 5 (spKR Pt) := Ok.mk C.f_known_rows fun f fd F => ok_known_rows F B c_filling_order c_least_of c_come_to c_ways_of (by decide)
  have c_table_of : Ok P w K mg base "table_of" ["rules", "string"] 6 (spTO Pt) := Ok.mk C.f_table_of fun f fd F => ok_table_of F B c_known_rows c_need_string c_row_keys (by decide)
  have c_law_pen : Ok P w K mg base "_law_pen" ["_law_script"] 1 (spPen K) := Ok.mk C.f_law_pen fun f fd F => ok_law_pen F
  have c_law_draw : Ok P w K mg base "_law_draw" ["_law_pen_here", "_law_many"] 1 (spE 1 RpDraw) := Ok.mk C.f_law_draw fun f fd F => ok_law_draw F B
  have c_law_pick : Ok P w K mg base "_law_pick" ["_law_pen_here", "_law_some"] 2 (spE 1 RpPick) := Ok.mk C.f_law_pick fun f fd F => ok_law_pick F B c_law_draw (by decide)
  have c_law_worth : Ok P w K mg base "_law_worth" ["_law_pen_here"] 3 (spE 4 RpWorth) := Ok.mk C.f_law_worth fun f fd F => ok_law_worth F B c_law_draw c_law_pick (by decide)
  have c_law_rules : Ok P w K mg base "_law_rules" ["_law_pen_here"] 4 (spE 1000 RpRules) := Ok.mk C.f_law_rules fun f fd F => ok_law_rules F B c_law_draw c_law_pick c_law_worth (by decide)
  have c_law_writ : Ok P w K mg base "_law_writ" ["_law_pen_here", "_law_given", "_law_many"] 3 (spE 30 RpWrit) := Ok.mk C.f_law_writ fun f fd F => ok_law_writ F B c_law_pick (by decide)
  have c_law_fits : Ok P w K mg base "_law_fits" ["_law_given", "_law_writ_here", "_law_i", "_law_j"] 1 (spP R_fits) := Ok.mk C.f_law_fits fun f fd F => ok_law_fits F B
  have c_law_listed : Ok P w K mg base "_law_listed" ["_law_given", "_law_writ_here", "_law_i", "_law_j"] 9 (spP (R_listed 6)) := by
    obtain ⟨f, fd, F, g, b⟩ := C.f_law_listed
    exact ⟨f, fd, ok_law_listed F B c_law_fits g F.kp b 6 (by decide), g, F.kp, b⟩
  have c_law_straight : Ok P w K mg base "_law_straight" ["_law_pairs_so", "_law_low", "_law_high"] 1 (spP R_straight) := Ok.mk C.f_law_straight fun f fd F => ok_law_straight F B
  have c_law_loop : Ok P w K mg base "_law_loop" ["_law_given", "_law_writ_here", "_law_pairs_so", "_law_pair_so"] 2 (spP R_loop) := Ok.mk C.f_law_loop fun f fd F => ok_law_loop F B c_law_straight (by decide)
  have c_law_shut : Ok P w K mg base "_law_shut" ["_law_given", "_law_writ_here", "_law_pairs_so"] 3 (spP R_shut) := Ok.mk C.f_law_shut fun f fd F => ok_law_shut F B c_law_loop (by decide)
  have c_law_whole : Ok P w K mg base "_law_whole" ["_law_given", "_law_writ_here", "_law_pairs_so"] 4 (spP R_whole) := Ok.mk C.f_law_whole fun f fd F => ok_law_whole F B c_law_straight c_law_shut (by decide)
  have c_law_come : Ok P w K mg base "_law_come" ["_law_known", "_law_own", "_law_keys_here"] 1 (spP R_lcome) := Ok.mk C.f_law_come fun f fd F => ok_law_come F B
  have c_law_shut_ways : Ok P w K mg base "_law_shut_ways" ["_law_given", "_law_writ_here", "_law_i", "_law_j"] 2 (spP R_lsw) := Ok.mk C.f_law_shut_ways fun f fd F => ok_law_shut_ways F B c_law_fits (by decide)
  have c_law_ways : Ok P w K mg base "_law_ways" ["_law_given", "_law_writ_here", "_law_key"] 3 (spP R_lways) := Ok.mk C.f_law_ways fun f fd F => ok_law_ways F B c_law_shut_ways (by decide)
  have c_law_keys : Ok P w K mg base "_law_keys" ["_law_many"] 1 (spP R_row_keys) := Ok.mk C.f_law_keys fun f fd F => ok_law_keys F B
  have c_law_least_rows : Ok P w K mg base "_law_least_rows" ["_law_given", "_law_writ_here", "_law_caps"] 4 (spP R_lrows) := Ok.mk C.f_law_least_rows fun f fd F => ok_law_least_rows F B c_law_keys c_law_come c_law_ways (by decide)
  have c_law_cheaper : Ok P w K mg base "_law_cheaper" ["_law_pen_here", "_law_given"] 3 (spE 300 RpCheaper) := Ok.mk C.f_law_cheaper fun f fd F => ok_law_cheaper F B c_law_draw (by decide)
  have c_law_tables : Ok P w K mg base "_law_tables" ["_law_pen_here", "_law_given", "_law_writ_here"] 7 (spLT Pt) := Ok.mk C.f_law_tables fun f fd F => ok_law_tables F B c_law_keys c_law_draw c_law_pick c_table_of c_law_least_rows c_law_cheaper (by decide)
  have c_law_below : Ok P w K mg base "_law_below" ["_law_given", "_law_writ_here", "_law_rows", "_law_listed_so"] 5 (spP R_below) := Ok.mk C.f_law_below fun f fd F => ok_law_below F B c_law_whole c_law_shut (by decide)
  exact ok_law F B c_law_pen c_law_rules c_law_writ c_law_pick c_law_listed c_law_whole c_law_tables c_lets_bounds c_law_below c_table_of (by decide)
end
theorem facts {w : World} {K : PySem.W.Frag} {h : Heap} {mg : Str → Option Value} (X : K.In h) (G : h.Ns mainGlobals mg) (c : He.SaysX hFa hFn [] hTf hEx w h K) : Facts K mg := by
  have d := c.t.d
  refine ⟨⟨He.free_ok X G (d.fact 44 (f := .free "len") rfl), He.free_ok X G (d.fact 45 (f := .free "dict") rfl), He.free_ok X G (d.fact 50 (f := .free "list") rfl), He.free_ok X G (d.fact 51 (f := .free "zip") rfl), He.free_ok X G (d.fact 48 (f := .free "range") rfl), He.free_ok X G (d.fact 49 (f := .free "sorted") rfl), He.free_ok X G (d.fact 57 (f := .free "min") rfl), He.free_ok X G (d.fact 58 (f := .free "max") rfl), He.free_ok X G (d.fact 52 (f := .free "sum") rfl), He.free_ok X G (d.fact 47 (f := .free "all") rfl), He.free_ok X G (d.fact 59 (f := .free "abs") rfl), He.free_ok X G (d.fact 46 (f := .free "isinstance") rfl), He.free_ok X G (d.fact 54 (f := .free "int") rfl), He.free_ok X G (d.fact 53 (f := .free "tuple") rfl), He.free_ok X G (d.fact 56 (f := .free "str") rfl), He.free_ok X G (d.fact 55 (f := .free "bool") rfl)⟩, He.int_ok X G (d.fact 60 (f := .int "MOST_PLACES" 12) rfl), He.glo_ok X G (d.fact 61 (f := .glo "LOOPS") rfl), fun H => He.tupB_ok c.more H, ?_, ?_, ?_, ?_, ?_, ?_, ?_, ?_, ?_, ?_, ?_, ?_, ?_, ?_, ?_, ?_, ?_, ?_, ?_, ?_, ?_, ?_, ?_, ?_, ?_, ?_, ?_, ?_, ?_, ?_, ?_, ?_, ?_, ?_, ?_, ?_, ?_, ?_, ?_, ?_, ?_, ?_, ?_, ?_⟩
  · obtain ⟨fd, F⟩ := d.def_ 0 (d := d_pair_worth) rfl
    exact hasF F (He.glo_ok X G (d.fact 0 (f := .glo "pair_worth") rfl)) fun _ _ _ _ _ _ us hl => match us, hl with | [_, _], _ => rfl
  · obtain ⟨fd, F⟩ := d.def_ 1 (d := d_stack_worth) rfl
    exact hasF F (He.glo_ok X G (d.fact 1 (f := .glo "stack_worth") rfl)) fun _ _ _ _ _ _ us hl => match us, hl with | [_, _, _], _ => rfl
  · obtain ⟨fd, F⟩ := d.def_ 2 (d := d_is_string) rfl
    exact hasF F (He.glo_ok X G (d.fact 2 (f := .glo "is_string") rfl)) fun _ _ _ _ _ _ us hl => match us, hl with | [_, _], _ => rfl
  · obtain ⟨fd, F⟩ := d.def_ 3 (d := d_need_string) rfl
    exact hasF F (He.glo_ok X G (d.fact 3 (f := .glo "need_string") rfl)) fun _ _ _ _ _ _ us hl => match us, hl with | [_, _], _ => rfl
  · obtain ⟨fd, F⟩ := d.def_ 4 (d := d_both_of) rfl
    exact hasF F (He.glo_ok X G (d.fact 4 (f := .glo "both_of") rfl)) fun _ _ _ _ _ _ us hl => match us, hl with | [_, _, _], _ => rfl
  · obtain ⟨fd, F⟩ := d.def_ 5 (d := d_may_pair) rfl
    exact hasF F (He.glo_ok X G (d.fact 5 (f := .glo "may_pair") rfl)) fun _ _ _ _ _ _ us hl => match us, hl with | [_, _, _, _], _ => rfl
  · obtain ⟨fd, F⟩ := d.def_ 6 (d := d_row_keys) rfl
    exact hasF F (He.glo_ok X G (d.fact 6 (f := .glo "row_keys") rfl)) fun _ _ _ _ _ _ us hl => match us, hl with | [_], _ => rfl
  · obtain ⟨fd, F⟩ := d.def_ 7 (d := d_told_loops) rfl
    exact hasF F (He.glo_ok X G (d.fact 7 (f := .glo "told_loops") rfl)) fun _ _ _ _ _ _ us hl => match us, hl with | [_], _ => rfl
  · obtain ⟨fd, F⟩ := d.def_ 8 (d := d_within_ways) rfl
    exact hasF F (He.glo_ok X G (d.fact 8 (f := .glo "within_ways") rfl)) fun _ _ _ _ _ _ us hl => match us, hl with | [_, _, _, _], _ => rfl
  · obtain ⟨fd, F⟩ := d.def_ 9 (d := d_shut_ways) rfl
    exact hasF F (He.glo_ok X G (d.fact 9 (f := .glo "shut_ways") rfl)) fun _ _ _ _ _ _ us hl => match us, hl with | [_, _, _, _], _ => rfl
  · obtain ⟨fd, F⟩ := d.def_ 10 (d := d_one_ways) rfl
    exact hasF F (He.glo_ok X G (d.fact 10 (f := .glo "one_ways") rfl)) fun _ _ _ _ _ _ us hl => match us, hl with | [_, _, _], _ => rfl
  · obtain ⟨fd, F⟩ := d.def_ 11 (d := d_two_ways) rfl
    exact hasF F (He.glo_ok X G (d.fact 11 (f := .glo "two_ways") rfl)) fun _ _ _ _ _ _ us hl => match us, hl with | [_, _, _], _ => rfl
  · obtain ⟨fd, F⟩ := d.def_ 12 (d := d_open_ways) rfl
    exact hasF F (He.glo_ok X G (d.fact 12 (f := .glo "open_ways") rfl)) fun _ _ _ _ _ _ us hl => match us, hl with | [_, _, _], _ => rfl
  · obtain ⟨fd, F⟩ := d.def_ 13 (d := d_ways_of) rfl
    exact hasF F (He.glo_ok X G (d.fact 13 (f := .glo "ways_of") rfl)) fun _ _ _ _ _ _ us hl => match us, hl with | [_, _, _], _ => rfl
  · obtain ⟨fd, F⟩ := d.def_ 14 (d := d_come_to) rfl
    exact hasF F (He.glo_ok X G (d.fact 14 (f := .glo "come_to") rfl)) fun _ _ _ _ _ _ us hl => match us, hl with | [_, _], _ => rfl
  · obtain ⟨fd, F⟩ := d.def_ 15 (d := d_is_worth) rfl
    exact hasF F (He.glo_ok X G (d.fact 15 (f := .glo "is_worth") rfl)) fun _ _ _ _ _ _ us hl => match us, hl with | [_], _ => rfl
  · obtain ⟨fd, F⟩ := d.def_ 16 (d := d_is_row) rfl
    exact hasF F (He.glo_ok X G (d.fact 16 (f := .glo "is_row") rfl)) fun _ _ _ _ _ _ us hl => match us, hl with | [_, _], _ => rfl
  · obtain ⟨fd, F⟩ := d.def_ 17 (d := d_is_no_more) rfl
    exact hasF F (He.glo_ok X G (d.fact 17 (f := .glo "is_no_more") rfl)) fun _ _ _ _ _ _ us hl => match us, hl with | [_, _], _ => rfl
  · obtain ⟨fd, F⟩ := d.def_ 18 (d := d_lets_bounds) rfl
    exact hasF F (He.glo_ok X G (d.fact 18 (f := .glo "lets_bounds") rfl)) fun _ _ _ _ _ _ us hl => match us, hl with | [_, _, _], _ => rfl
  · obtain ⟨fd, F⟩ := d.def_ 19 (d := d_least_of) rfl
    exact hasF F (He.glo_ok X G (d.fact 19 (f := .glo "least_of") rfl)) fun _ _ _ _ _ _ us hl => match us, hl with | [_], _ => rfl
  · obtain ⟨fd, F⟩ := d.def_ 20 (d := d_filling_order) rfl
    exact hasF F (He.glo_ok X G (d.fact 20 (f := .glo "filling_order") rfl)) fun _ _ _ _ _ _ us hl => match us, hl with | [_], _ => rfl
  · obtain ⟨fd, F⟩ := d.def_ 21 (d := d_known_rows) rfl
    exact hasF F (He.glo_ok X G (d.fact 21 (f := .glo "known_rows") rfl)) fun _ _ _ _ _ _ us hl => match us, hl with | [_, _], _ => rfl
  · obtain ⟨fd, F⟩ := d.def_ 22 (d := d_table_of) rfl
    exact hasF F (He.glo_ok X G (d.fact 22 (f := .glo "table_of") rfl)) fun _ _ _ _ _ _ us hl => match us, hl with | [_, _], _ => rfl
  · obtain ⟨fd, F⟩ := d.def_ 23 (d := d_law_pen) rfl
    exact hasF F (He.glo_ok X G (d.fact 23 (f := .glo "_law_pen") rfl)) fun _ _ _ _ _ _ us hl => match us, hl with | [_], _ => rfl
  · obtain ⟨fd, F⟩ := d.def_ 24 (d := d_law_draw) rfl
    exact hasF F (He.glo_ok X G (d.fact 24 (f := .glo "_law_draw") rfl)) fun _ _ _ _ _ _ us hl => match us, hl with | [_, _], _ => rfl
  · obtain ⟨fd, F⟩ := d.def_ 25 (d := d_law_pick) rfl
    exact hasF F (He.glo_ok X G (d.fact 25 (f := .glo "_law_pick") rfl)) fun _ _ _ _ _ _ us hl => match us, hl with | [_, _], _ => rfl
  · obtain ⟨fd, F⟩ := d.def_ 26 (d := d_law_worth) rfl
    exact hasF F (He.glo_ok X G (d.fact 26 (f := .glo "_law_worth") rfl)) fun _ _ _ _ _ _ us hl => match us, hl with | [_], _ => rfl
  · obtain ⟨fd, F⟩ := d.def_ 27 (d := d_law_rules) rfl
    exact hasF F (He.glo_ok X G (d.fact 27 (f := .glo "_law_rules") rfl)) fun _ _ _ _ _ _ us hl => match us, hl with | [_], _ => rfl
  · obtain ⟨fd, F⟩ := d.def_ 28 (d := d_law_writ) rfl
    exact hasF F (He.glo_ok X G (d.fact 28 (f := .glo "_law_writ") rfl)) fun _ _ _ _ _ _ us hl => match us, hl with | [_, _, _], _ => rfl
  · obtain ⟨fd, F⟩ := d.def_ 29 (d := d_law_fits) rfl
    exact hasF F (He.glo_ok X G (d.fact 29 (f := .glo "_law_fits") rfl)) fun _ _ _ _ _ _ us hl => match us, hl with | [_, _, _, _], _ => rfl
  · obtain ⟨fd, F⟩ := d.def_ 30 (d := d_law_listed) rfl
    exact hasF F (He.glo_ok X G (d.fact 30 (f := .glo "_law_listed") rfl)) fun _ _ _ _ _ _ us hl => match us, hl with | [_, _, _, _], _ => rfl
  · obtain ⟨fd, F⟩ := d.def_ 31 (d := d_law_straight) rfl
    exact hasF F (He.glo_ok X G (d.fact 31 (f := .glo "_law_straight") rfl)) fun _ _ _ _ _ _ us hl => match us, hl with | [_, _, _], _ => rfl
  · obtain ⟨fd, F⟩ := d.def_ 32 (d := d_law_loop) rfl
    exact hasF F (He.glo_ok X G (d.fact 32 (f := .glo "_law_loop") rfl)) fun _ _ _ _ _ _ us hl => match us, hl with | [_, _, _, _], _ => rfl
  · obtain ⟨fd, F⟩ := d.def_ 33 (d := d_law_shut) rfl
    exact hasF F (He.glo_ok X G (d.fact 33 (f := .glo "_law_shut") rfl)) fun _ _ _ _ _ _ us hl => match us, hl with | [_, _, _], _ => rfl
  · obtain ⟨fd, F⟩ := d.def_ 34 (d := d_law_whole) rfl
    exact hasF F (He.glo_ok X G (d.fact 34 (f := .glo "_law_whole") rfl)) fun _ _ _ _ _ _ us hl => match us, hl with | [_, _, _], _ => rfl
  · obtain ⟨fd, F⟩ := d.def_ 35 (d := d_law_come) rfl
    exact hasF F (He.glo_ok X G (d.fact 35 (f := .glo "_law_come") rfl)) fun _ _ _ _ _ _ us hl => match us, hl with | [_, _, _], _ => rfl
  · obtain ⟨fd, F⟩ := d.def_ 36 (d := d_law_shut_ways) rfl
    exact hasF F (He.glo_ok X G (d.fact 36 (f := .glo "_law_shut_ways") rfl)) fun _ _ _ _ _ _ us hl => match us, hl with | [_, _, _, _], _ => rfl
  · obtain ⟨fd, F⟩ := d.def_ 37 (d := d_law_ways) rfl
    exact hasF F (He.glo_ok X G (d.fact 37 (f := .glo "_law_ways") rfl)) fun _ _ _ _ _ _ us hl => match us, hl with | [_, _, _], _ => rfl
  · obtain ⟨fd, F⟩ := d.def_ 38 (d := d_law_keys) rfl
    exact hasF F (He.glo_ok X G (d.fact 38 (f := .glo "_law_keys") rfl)) fun _ _ _ _ _ _ us hl => match us, hl with | [_], _ => rfl
  · obtain ⟨fd, F⟩ := d.def_ 39 (d := d_law_least_rows) rfl
    exact hasF F (He.glo_ok X G (d.fact 39 (f := .glo "_law_least_rows") rfl)) fun _ _ _ _ _ _ us hl => match us, hl with | [_, _, _], _ => rfl
  · obtain ⟨fd, F⟩ := d.def_ 40 (d := d_law_cheaper) rfl
    exact hasF F (He.glo_ok X G (d.fact 40 (f := .glo "_law_cheaper") rfl)) fun _ _ _ _ _ _ us hl => match us, hl with | [_, _], _ => rfl
  · obtain ⟨fd, F⟩ := d.def_ 41 (d := d_law_tables) rfl
    exact hasF F (He.glo_ok X G (d.fact 41 (f := .glo "_law_tables") rfl)) fun _ _ _ _ _ _ us hl => match us, hl with | [_, _, _], _ => rfl
  · obtain ⟨fd, F⟩ := d.def_ 42 (d := d_law_below) rfl
    exact hasF F (He.glo_ok X G (d.fact 42 (f := .glo "_law_below") rfl)) fun _ _ _ _ _ _ us hl => match us, hl with | [_, _, _, _], _ => rfl
  · obtain ⟨fd, F⟩ := d.def_ 20 (d := d_filling_order) rfl
    exact ⟨fd, func_of F, He.glo_ok X G (d.fact 20 (f := .glo "filling_order") rfl), F.kp, FunD.bindsN F fun _ _ _ _ _ _ us hl => match us, hl with | [_], _ => rfl⟩
theorem law_at {w : World} {h : Heap} {mg : Str → Option Value} {fa : Addr} {K : PySem.W.Frag} (X : K.In h) (c : He.SaysX hFa hFn [] hTf hEx w h K) (G : h.Ns mainGlobals mg) (hmg : mg ("law" : Str) = some (.ref fa)) :
    LawAtS PySem.Challenge.rw_pairfolds_k20_whole_no_folding_below_any w K CX0 10 63 "_law_script" mg fa h := by
  have d := c.t.d
  obtain ⟨fd, F⟩ := d.def_ 43 (d := d_law) rfl
  have e := hmg.symm.trans (He.glo_ok X G (d.fact 43 (f := .glo "law") rfl))
  cases e
  have b := FunD.bindsA (ps := ["_law_script"]) F fun _ _ _ _ _ _ us hl => match us, hl with | [_], _ => rfl
  have one : ∀ p ∈ [He.cT K ("filling_order", none)], p = He.cT K ("filling_order", none) := fun p hp => List.mem_singleton.mp hp
  have m1 : (("filling_order", none) : He.Defn) ∈ hTf := List.mem_singleton.mpr rfl
  refine ⟨fd, [He.cT K ("filling_order", none)], spLaw K (He.cT K ("filling_order", none)).2, fun p hp => ?_, fun p hp => ?_, fun p hp => ?_, fun s v => b s [v] rfl, fun H a ns hl _ hT hS => ⟨a, ns, rfl, hS, TabS.nil (hT _ (List.mem_singleton.mpr rfl)), fun _ => rfl⟩, fun base Xb Gb hb => ?_⟩
  · rw [one p hp]; exact c.empty _ m1
  · rw [one p hp]; exact c.out _ m1
  · rw [one p hp]; exact PySem.W.codeHd_of_K X (c.hd _ m1)
  · exact law_all (facts X G c) (hb _ (List.mem_singleton.mpr rfl)) (fun_of F)
end PF
-- part PfEnd
set_option Elab.async false
set_option linter.all false
set_option maxRecDepth 100000
set_option maxHeartbeats 0
open PySem PySem.W PySem.Calls PyProof.Rows
theorem PySem.Challenge.cw_pairfolds_k20_whole_no_folding_below_any_holds : PySem.Challenge.rw_pairfolds_k20_whole_no_folding_below_any.Holds := by
  w_on; o_law
  refine HandSHeadRun.head_any (r := OpenLaw.row PySem.Challenge.rw_pairfolds_k20_whole_no_folding_below_any) (q := view (OpenLaw.row PySem.Challenge.rw_pairfolds_k20_whole_no_folding_below_any).prog [55]) (H := PF.hHk) (ob := PF.hOb) (M := 3000) (loose := PF.hLoose) (d := HandSHeadRun.topDef (OpenLaw.row PySem.Challenge.rw_pairfolds_k20_whole_no_folding_below_any).prog 55) (kwd := []) PF.hOb_eq
    (by kernel_rfl) (fun s => by kernel_rfl) PF.hRun (by kernel_rfl) (by kernel_rfl) (by kernel_rfl) (by rfl) (by first | assumption | decide +kernel) (by decide +kernel) ⟨rfl, rfl, rfl, rfl, rfl, by decide +kernel⟩ ?hw ?hc
  case hw => w_witness2
  case hc =>
    refine LamX.walk_ofTsE (l := PySem.Challenge.rw_pairfolds_k20_whole_no_folding_below_any) (n := 63) (k := 10) (x := "_law_script") (CX := fun _ => L2.CX0) rfl (by decide) (by kernel_rfl) ⟨rfl, by decide, by decide⟩ ?F (fun _ _ _ _ _ z => z)
    intro w mg fa h Y G hmg0
    obtain ⟨K, KX, c⟩ := Y
    have hmg : mg ("law" : PySem.Str) = some (.ref fa) := by
      have e : (HandSHeadRun.topDef (OpenLaw.row PySem.Challenge.rw_pairfolds_k20_whole_no_folding_below_any).prog 55).name = ("law" : PySem.Str) := by kernel_rfl
      rw [← e]
      exact hmg0
    exact ⟨K, KX, PF.law_at KX c G hmg⟩
