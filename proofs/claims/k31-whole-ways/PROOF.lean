import PyProof.Rows.All
import Wide.All
import OpenK.AllK
import Wide.FinOn
import KE.KStateDown
import HandS.Base
import HandS.Call
import HandS.Ends
import HandS.More
import HandS.Words
import HandS.WordsExc
import HandS.Codes
import HandS.Defaults
import HandS.Head0
import HandS.Head1
import HandS.Head2
import HandS.HeadEnd
import HandS.HeadHook1
import HandS.HeadHook2
import PySem.Challenge.RW_kaleidorooms_k31_whole_ways
import OpenK.KOps
import KE.DataMinMax
import KE.KDictKeyed
import KE.KIndexOf
import KE.KTup
import HandS.ForMost
import HandS.IsInst
import HandS.Star
import HandS.Conv
import HandS.TupAny
import HandS.TupLen
import HandS.Zip
import HandS.DictComp
import KE.GoesMore
import KE.GoesNew
import KE.GoesEnum
import KE.SortData
import KE.SortKeyHeap
import HandS.SortKw
import HandS.Deep
set_option linter.all false
set_option maxRecDepth 100000
/-! K31, the plain law: halls, roots, the two searches by layers. No program in sight. -/
namespace K31
abbrev Vec := List Int
abbrev Mat := List (List Int)
def dot (a b : Vec) : Int := (List.zipWith (· * ·) a b).sum
def rowOf (P : Mat) (i : Nat) : Vec := P.getD i []
def turn (P : Mat) (v : Vec) (i : Nat) : Vec := v.set i (dot (rowOf P i) v - v.getD i 0)
def unit (n i : Nat) : Vec := (List.range n).map fun j => if j = i then 1 else 0
def neg (v : Vec) : Vec := v.map fun x => -x

/-! ### vectors -/
theorem turn_length (P : Mat) (v : Vec) (i : Nat) : (turn P v i).length = v.length := by simp [turn]
theorem unit_length (n i : Nat) : (unit n i).length = n := by simp [unit]
theorem neg_length (v : Vec) : (neg v).length = v.length := by simp [neg]
theorem neg_neg (v : Vec) : neg (neg v) = v := by
  simp [neg, List.map_map, Function.comp_def]
theorem neg_getD (v : Vec) (i : Nat) : (neg v).getD i 0 = -(v.getD i 0) := by
  unfold neg
  rw [List.getD_eq_getElem?_getD, List.getD_eq_getElem?_getD, List.getElem?_map]
  cases v[i]? <;> simp
theorem neg_sum : ∀ v : Vec, (neg v).sum = -v.sum
  | [] => rfl
  | x :: v => by
    have ih := neg_sum v
    show (-x :: neg v).sum = -(x :: v).sum
    rw [List.sum_cons, List.sum_cons, ih]
    omega
theorem dot_neg : ∀ a b : Vec, dot a (neg b) = -dot a b
  | [], b => by simp [dot]
  | _ :: _, [] => by simp [dot, neg]
  | x :: a, y :: b => by
    have ih := dot_neg a b
    show ((x * -y) :: List.zipWith (· * ·) a (neg b)).sum = -((x * y) :: List.zipWith (· * ·) a b).sum
    rw [List.sum_cons, List.sum_cons]
    have e : (List.zipWith (· * ·) a (neg b)).sum = -(List.zipWith (· * ·) a b).sum := ih
    rw [e, Int.mul_neg]
    omega
theorem turn_neg (P : Mat) (v : Vec) (i : Nat) : turn P (neg v) i = neg (turn P v i) := by
  unfold turn
  rw [dot_neg, neg_getD]
  unfold neg
  rw [List.map_set]
  congr 1
  omega
theorem dot_set : ∀ (a b : Vec) (i : Nat) (x : Int), i < b.length → a.length = b.length → dot a (b.set i x) = dot a b + a.getD i 0 * (x - b.getD i 0)
  | [], [], _, _, h, _ => by simp at h
  | [], _ :: _, _, _, _, h => by simp at h
  | _ :: _, [], _, _, _, h => by simp at h
  | a :: as, b :: bs, 0, x, _, _ => by
    show ((a * x) :: List.zipWith (· * ·) as bs).sum = ((a * b) :: List.zipWith (· * ·) as bs).sum + a * (x - b)
    rw [List.sum_cons, List.sum_cons, Int.mul_sub]
    omega
  | a :: as, b :: bs, i + 1, x, h, hl => by
    have ih := dot_set as bs i x (by simpa using h) (by simpa using hl)
    show ((a * b) :: List.zipWith (· * ·) as (bs.set i x)).sum = ((a * b) :: List.zipWith (· * ·) as bs).sum + (as.getD i 0) * (x - bs.getD i 0)
    rw [List.sum_cons, List.sum_cons]
    have e : (List.zipWith (· * ·) as (bs.set i x)).sum = (List.zipWith (· * ·) as bs).sum + as.getD i 0 * (x - bs.getD i 0) := ih
    omega
theorem sum_set : ∀ (b : Vec) (i : Nat) (x : Int), i < b.length → (b.set i x).sum = b.sum + (x - b.getD i 0)
  | [], _, _, h => by simp at h
  | b :: bs, 0, x, _ => by
    show (x :: bs).sum = (b :: bs).sum + (x - b)
    rw [List.sum_cons, List.sum_cons]
    omega
  | b :: bs, i + 1, x, h => by
    have ih := sum_set bs i x (by simpa using h)
    show (b :: bs.set i x).sum = (b :: bs).sum + (x - bs.getD i 0)
    rw [List.sum_cons, List.sum_cons, ih]
    omega
theorem getD_set_self (b : Vec) (i : Nat) (x : Int) (h : i < b.length) : (b.set i x).getD i 0 = x := by
  rw [List.getD_eq_getElem?_getD, List.getElem?_set_self h]
  rfl
theorem set_set_self (b : Vec) (i : Nat) (x y : Int) : (b.set i x).set i y = b.set i y := by
  rw [List.set_set]
theorem set_getD_self : ∀ (b : Vec) (i : Nat), i < b.length → b.set i (b.getD i 0) = b
  | [], _, h => by simp at h
  | _ :: _, 0, _ => rfl
  | b :: bs, i + 1, h => by
    show b :: bs.set i (bs.getD i 0) = b :: bs
    rw [set_getD_self bs i (by simpa using h)]

/-! ### a hall's pushes -/
structure Shape (P : Mat) : Prop where
  pos : 1 ≤ P.length
  le : P.length ≤ 8
  rows : ∀ r ∈ P, r.length = P.length
  ent : ∀ r ∈ P, ∀ x ∈ r, 0 ≤ x ∧ x ≤ 4
  diag : ∀ i, i < P.length → (rowOf P i).getD i 0 = 0
  sym : ∀ i j, i < P.length → j < P.length → ((rowOf P i).getD j 0 = 0 ↔ (rowOf P j).getD i 0 = 0)
theorem rowOf_mem {P : Mat} {i : Nat} (h : i < P.length) : rowOf P i ∈ P := by
  unfold rowOf
  rw [List.getD_eq_getElem?_getD, List.getElem?_eq_getElem h]
  exact List.getElem_mem h
theorem Shape.row_length {P : Mat} (S : Shape P) {i : Nat} (h : i < P.length) : (rowOf P i).length = P.length := S.rows _ (rowOf_mem h)
/-- turning twice leads back -/
theorem turn_turn {P : Mat} (S : Shape P) {v : Vec} {i : Nat} (hv : v.length = P.length) (hi : i < P.length) : turn P (turn P v i) i = v := by
  have hl := S.row_length hi
  have hiv : i < v.length := by omega
  unfold turn
  rw [dot_set _ _ _ _ hiv (by omega), S.diag i hi, getD_set_self _ _ _ hiv, set_set_self]
  have e : dot (rowOf P i) v + 0 * (dot (rowOf P i) v - v.getD i 0 - v.getD i 0) - (dot (rowOf P i) v - v.getD i 0) = v.getD i 0 := by
    rw [Int.zero_mul]
    omega
  rw [e]
  exact set_getD_self v i hiv
/-- a witness that all wings are ending -/
structure Wit (P : Mat) (u : Vec) : Prop where
  len : u.length = P.length
  bnd : ∀ x ∈ u, 1 ≤ x ∧ x ≤ 400
  less : ∀ i, i < P.length → dot (rowOf P i) u < 2 * u.getD i 0
/-- the arrows that point up, each with how many turnings it is from a unit -/
structure Roots (P : Mat) (RD : List (Vec × Nat)) : Prop where
  len : ∀ p ∈ RD, p.1.length = P.length
  nn : ∀ p ∈ RD, ∀ x ∈ p.1, 0 ≤ x
  bnd : RD.length ≤ 1000
  fn : ∀ p ∈ RD, ∀ q ∈ RD, p.1 = q.1 → p.2 = q.2
  uni : ∀ i, i < P.length → (unit P.length i, 0) ∈ RD
  zero : ∀ p ∈ RD, p.2 = 0 → ∃ i, i < P.length ∧ p.1 = unit P.length i
  pos : ∀ p ∈ RD, 0 < p.1.sum
  one : ∀ p ∈ RD, p.1.sum = 1 ↔ p.2 = 0
  step : ∀ p ∈ RD, ∀ i, i < P.length → (p.1 = unit P.length i ∧ turn P p.1 i = neg p.1) ∨ ∃ q ∈ RD, q.1 = turn P p.1 i ∧ (p.1.sum < q.1.sum → q.2 = p.2 + 1) ∧ (q.1.sum < p.1.sum → p.2 = q.2 + 1)
  down : ∀ p ∈ RD, 0 < p.2 → ∃ i, i < P.length ∧ ∃ q ∈ RD, q.1 = turn P p.1 i ∧ q.2 + 1 = p.2
structure Good (P : Mat) : Prop where
  shape : Shape P
  wit : ∃ u, Wit P u
  roots : ∃ RD, Roots P RD

/-! ### tables: lists of pairs, in the order of insertion -/
abbrev Tab := List (Vec × List Int)
def lookM (m : Tab) (k : Vec) : Option (List Int) := (m.find? fun p => decide (p.1 = k)).map (·.2)
def putM (m : Tab) (k : Vec) (w : List Int) : Tab := if (m.any fun p => decide (p.1 = k)) = true then m.map (fun p => if p.1 = k then (p.1, w) else p) else m ++ [(k, w)]
def keysM (m : Tab) : List Vec := m.map (·.1)
theorem any_keys {m : Tab} {k : Vec} : (m.any fun p => decide (p.1 = k)) = true ↔ k ∈ keysM m := by
  simp [keysM, List.any_eq_true]
theorem lookM_none {m : Tab} {k : Vec} : lookM m k = none ↔ k ∉ keysM m := by
  unfold lookM keysM
  simp [List.find?_eq_none]
  constructor
  · intro h x y
    exact h k x y rfl
  · intro h a b hab e
    subst e
    exact h b hab
theorem lookM_mem {m : Tab} {k : Vec} {w : List Int} (h : lookM m k = some w) : (k, w) ∈ m := by
  unfold lookM at h
  obtain ⟨p, hp, e⟩ := Option.map_eq_some_iff.mp h
  have h1 := List.mem_of_find?_eq_some hp
  have h2 := List.find?_some hp
  have h3 : p.1 = k := by simpa using h2
  rw [← h3, ← e]
  exact h1
theorem nd_unique {m : Tab} (nd : (keysM m).Nodup) {k : Vec} {w w' : List Int} (h : (k, w) ∈ m) (h' : (k, w') ∈ m) : w = w' := by
  induction m with
  | nil => cases h
  | cons p r ih =>
    have nd' : p.1 ∉ keysM r ∧ (keysM r).Nodup := List.nodup_cons.mp nd
    rcases List.mem_cons.mp h with e | h1
    · rcases List.mem_cons.mp h' with e' | h2
      · rw [← e] at e'
        injection e' with _ e2
        exact e2.symm
      · exact absurd (List.mem_map.mpr ⟨_, h2, by rw [← e]⟩) nd'.1
    · rcases List.mem_cons.mp h' with e' | h2
      · exact absurd (List.mem_map.mpr ⟨_, h1, by rw [← e']⟩) nd'.1
      · exact ih nd'.2 h1 h2
theorem mem_look {m : Tab} (nd : (keysM m).Nodup) {k : Vec} {w : List Int} (h : (k, w) ∈ m) : lookM m k = some w := by
  cases e : lookM m k with
  | none => exact absurd (List.mem_map.mpr ⟨_, h, rfl⟩) (lookM_none.mp e)
  | some w' => rw [nd_unique nd h (lookM_mem e)]
theorem keys_put (m : Tab) (k : Vec) (w : List Int) : keysM (putM m k w) = if k ∈ keysM m then keysM m else keysM m ++ [k] := by
  unfold putM
  by_cases h : (m.any fun p => decide (p.1 = k)) = true
  · rw [if_pos h, if_pos (any_keys.mp h)]
    unfold keysM
    rw [List.map_map]
    apply List.map_congr_left
    intro p _
    show (if p.1 = k then (p.1, w) else p).1 = p.1
    split <;> rfl
  · rw [if_neg h, if_neg fun z => h (any_keys.mpr z)]
    simp [keysM]
theorem nd_snoc' {α : Type} {l : List α} {k : α} (h : l.Nodup) (hk : k ∉ l) : (l ++ [k]).Nodup := by
  rw [List.nodup_append]
  refine ⟨h, by simp, fun a ha b hb e => ?_⟩
  have : b = k := by simpa using hb
  subst this
  subst e
  exact hk ha
theorem nd_put {m : Tab} (nd : (keysM m).Nodup) (k : Vec) (w : List Int) : (keysM (putM m k w)).Nodup := by
  rw [keys_put]
  split
  · exact nd
  · exact nd_snoc' nd (by assumption)
theorem mem_put {m : Tab} (nd : (keysM m).Nodup) {k x : Vec} {w z : List Int} : (x, z) ∈ putM m k w ↔ (x = k ∧ z = w) ∨ (x ≠ k ∧ (x, z) ∈ m) := by
  unfold putM
  by_cases h : (m.any fun p => decide (p.1 = k)) = true
  · rw [if_pos h]
    constructor
    · intro hm
      obtain ⟨p, hp, e⟩ := List.mem_map.mp hm
      by_cases q : p.1 = k
      · rw [if_pos q] at e
        injection e with e1 e2
        exact .inl ⟨e1.symm.trans q, e2.symm⟩
      · rw [if_neg q] at e
        subst e
        exact .inr ⟨q, hp⟩
    · rintro (⟨rfl, rfl⟩ | ⟨q, hm⟩)
      · obtain ⟨p, hp, e⟩ := List.mem_map.mp (any_keys.mp h)
        exact List.mem_map.mpr ⟨p, hp, by rw [if_pos e, e]⟩
      · exact List.mem_map.mpr ⟨_, hm, by rw [if_neg q]⟩
  · rw [if_neg h]
    have hk : k ∉ keysM m := fun z => h (any_keys.mpr z)
    rw [List.mem_append, List.mem_singleton]
    constructor
    · rintro (hm | e)
      · refine .inr ⟨?_, hm⟩
        rintro rfl
        exact hk (List.mem_map.mpr ⟨_, hm, rfl⟩)
      · injection e with e1 e2
        exact .inl ⟨e1, e2⟩
    · rintro (⟨rfl, rfl⟩ | ⟨_, hm⟩)
      · exact .inr rfl
      · exact .inl hm
def mergeM (m l : Tab) : Tab := l.foldl (fun a p => putM a p.1 p.2) m
theorem merge_spec : ∀ (l m : Tab), (keysM m).Nodup → (keysM l).Nodup → (∀ k ∈ keysM l, k ∉ keysM m) → (keysM (mergeM m l)).Nodup ∧ ∀ x z, (x, z) ∈ mergeM m l ↔ (x, z) ∈ m ∨ (x, z) ∈ l
  | [], m, nm, _, _ => ⟨nm, fun x z => by simp [mergeM]⟩
  | p :: l, m, nm, nl, hd => by
    have nl' : p.1 ∉ keysM l ∧ (keysM l).Nodup := List.nodup_cons.mp nl
    have hp : p.1 ∉ keysM m := hd p.1 (List.mem_cons_self ..)
    obtain ⟨h1, h2⟩ := merge_spec l (putM m p.1 p.2) (nd_put nm _ _) nl'.2 fun k hk hm => by
      rw [keys_put, if_neg hp, List.mem_append, List.mem_singleton] at hm
      rcases hm with hm | e
      · exact hd k (List.mem_cons_of_mem _ hk) hm
      · exact nl'.1 (e ▸ hk)
    refine ⟨h1, fun x z => ?_⟩
    have e : mergeM m (p :: l) = mergeM (putM m p.1 p.2) l := rfl
    rw [e, h2, mem_put nm, List.mem_cons]
    constructor
    · rintro ((⟨rfl, rfl⟩ | ⟨_, h⟩) | h)
      · exact .inr (.inl rfl)
      · exact .inl h
      · exact .inr (.inr h)
    · rintro (h | e | h)
      · refine .inl (.inr ⟨?_, h⟩)
        rintro rfl
        exact hp (List.mem_map.mpr ⟨_, h, rfl⟩)
      · rw [← e]
        exact .inl (.inl ⟨rfl, rfl⟩)
      · exact .inr h

/-! ### the order of tuples -/
def lexLt : List Int → List Int → Bool
  | [], [] => false
  | [], _ :: _ => true
  | _ :: _, [] => false
  | x :: xs, y :: ys => if x = y then lexLt xs ys else decide (x < y)
theorem lexLt_irrefl : ∀ l, lexLt l l = false
  | [] => rfl
  | x :: l => by
    show (if x = x then lexLt l l else _) = false
    rw [if_pos rfl]
    exact lexLt_irrefl l
theorem lexLt_cons {x y : Int} {xs ys : List Int} : lexLt (x :: xs) (y :: ys) = true ↔ x < y ∨ (x = y ∧ lexLt xs ys = true) := by
  show (if x = y then lexLt xs ys else decide (x < y)) = true ↔ _
  by_cases e : x = y
  · rw [if_pos e]
    constructor
    · intro h
      exact .inr ⟨e, h⟩
    · rintro (h | ⟨_, h⟩)
      · omega
      · exact h
  · rw [if_neg e]
    constructor
    · intro h
      exact .inl (of_decide_eq_true h)
    · rintro (h | ⟨h, _⟩)
      · exact decide_eq_true h
      · exact absurd h e
theorem lexLt_trans : ∀ {a b c : List Int}, lexLt a b = true → lexLt b c = true → lexLt a c = true
  | [], [], _, h, _ => by cases h
  | [], _ :: _, [], _, h => by cases h
  | [], _ :: _, _ :: _, _, _ => rfl
  | _ :: _, [], _, h, _ => by cases h
  | _ :: _, _ :: _, [], _, h => by cases h
  | x :: a, y :: b, z :: c, h1, h2 => by
    rw [lexLt_cons] at *
    rcases h1 with h1 | ⟨e1, h1⟩ <;> rcases h2 with h2 | ⟨e2, h2⟩
    · left; omega
    · left; omega
    · left; omega
    · right
      exact ⟨by omega, lexLt_trans h1 h2⟩
def best : Option (List Int) → List Int → List Int
  | none, w => w
  | some o, w => if lexLt w o = true then w else o

/-! ### a layer's search -/
section
variable (cond : Vec → Vec → Bool) (P : Mat)
def fw (found : Tab) (a : Vec) : List Int := (lookM found a).getD []
def stepM (found : Tab) (a : Vec) (later : Tab) (i : Nat) : Tab :=
  if ((lookM found (turn P a i)).isNone && cond a (turn P a i)) = true then putM later (turn P a i) (best (lookM later (turn P a i)) ((i : Int) :: fw found a)) else later
def rowM (found : Tab) (n : Nat) (later : Tab) (a : Vec) : Tab := (List.range n).foldl (stepM cond P found a) later
def layerM (found : Tab) (n : Nat) (L : List Vec) : Tab := L.foldl (rowM cond P found n) []
/-- what stands in later behind the pairs done -/
structure Acc (found : Tab) (done : Vec → Nat → Prop) (later : Tab) : Prop where
  nd : (keysM later).Nodup
  src : ∀ x w, (x, w) ∈ later → x ∉ keysM found ∧ ∃ a i, done a i ∧ turn P a i = x ∧ cond a x = true ∧ w = (i : Int) :: fw found a
  all : ∀ a i, done a i → turn P a i ∉ keysM found → cond a (turn P a i) = true → ∃ w, (turn P a i, w) ∈ later ∧ lexLt ((i : Int) :: fw found a) w = false
variable {cond P}
theorem Acc.none {found : Tab} : Acc cond P found (fun _ _ => False) [] := ⟨List.nodup_nil, fun _ _ h => absurd h List.not_mem_nil, fun _ _ h => h.elim⟩
theorem Acc.imp {found later : Tab} {done done' : Vec → Nat → Prop} (A : Acc cond P found done later) (h : ∀ a i, done a i ↔ done' a i) : Acc cond P found done' later :=
  ⟨A.nd, fun x w hm => let ⟨h1, a, i, h2, h3⟩ := A.src x w hm; ⟨h1, a, i, (h a i).mp h2, h3⟩, fun a i hd => A.all a i ((h a i).mpr hd)⟩
theorem Acc.step {found later : Tab} {done : Vec → Nat → Prop} (A : Acc cond P found done later) (a : Vec) (i : Nat) : Acc cond P found (fun b j => done b j ∨ (b = a ∧ j = i)) (stepM cond P found a later i) := by
  unfold stepM
  by_cases h : ((lookM found (turn P a i)).isNone && cond a (turn P a i)) = true
  · rw [if_pos h]
    obtain ⟨h1, h2⟩ := Bool.and_eq_true_iff.mp h
    have hn : turn P a i ∉ keysM found := lookM_none.mp (by simpa using h1)
    refine ⟨nd_put A.nd _ _, fun x w hm => ?_, fun b j hd hk hc => ?_⟩
    · rw [mem_put A.nd] at hm
      rcases hm with ⟨rfl, rfl⟩ | ⟨_, hm⟩
      · refine ⟨hn, ?_⟩
        cases e : lookM later (turn P a i) with
        | none => exact ⟨a, i, .inr ⟨rfl, rfl⟩, rfl, h2, rfl⟩
        | some o =>
          by_cases q : lexLt ((i : Int) :: fw found a) o = true
          · exact ⟨a, i, .inr ⟨rfl, rfl⟩, rfl, h2, if_pos q⟩
          · obtain ⟨_, b, j, z1, z2, z3, z4⟩ := A.src _ _ (lookM_mem e)
            exact ⟨b, j, .inl z1, z2, z3, (if_neg q).trans z4⟩
      · obtain ⟨z0, b, j, z1, z2⟩ := A.src _ _ hm
        exact ⟨z0, b, j, .inl z1, z2⟩
    · by_cases q : turn P b j = turn P a i
      · refine ⟨best (lookM later (turn P a i)) ((i : Int) :: fw found a), (mem_put A.nd).mpr (.inl ⟨q, rfl⟩), ?_⟩
        rcases hd with hd | ⟨rfl, rfl⟩
        · obtain ⟨w, hw, hl⟩ := A.all b j hd hk hc
          rw [q] at hw
          rw [mem_look A.nd hw]
          show lexLt _ (if lexLt ((i : Int) :: fw found a) w = true then _ else w) = false
          by_cases t : lexLt ((i : Int) :: fw found a) w = true
          · rw [if_pos t]
            cases r : lexLt ((j : Int) :: fw found b) ((i : Int) :: fw found a) with
            | false => rfl
            | true => rw [lexLt_trans r t] at hl; cases hl
          · rw [if_neg t]
            exact hl
        · cases e : lookM later (turn P b j) with
          | none => exact lexLt_irrefl _
          | some o =>
            show lexLt _ (if lexLt ((j : Int) :: fw found b) o = true then _ else o) = false
            by_cases t : lexLt ((j : Int) :: fw found b) o = true
            · rw [if_pos t]
              exact lexLt_irrefl _
            · rw [if_neg t]
              simpa using t
      · rcases hd with hd | ⟨rfl, rfl⟩
        · obtain ⟨w, hw, hl⟩ := A.all b j hd hk hc
          exact ⟨w, (mem_put A.nd).mpr (.inr ⟨q, hw⟩), hl⟩
        · exact absurd rfl q
  · rw [if_neg h]
    refine ⟨A.nd, fun x w hm => ?_, fun b j hd hk hc => ?_⟩
    · obtain ⟨z0, b, j, z1, z2⟩ := A.src _ _ hm
      exact ⟨z0, b, j, .inl z1, z2⟩
    · rcases hd with hd | ⟨rfl, rfl⟩
      · exact A.all b j hd hk hc
      · refine absurd ?_ h
        rw [lookM_none.mpr hk, hc]
        rfl
theorem Acc.row {found later : Tab} {done : Vec → Nat → Prop} (A : Acc cond P found done later) (a : Vec) : ∀ n, Acc cond P found (fun b j => done b j ∨ (b = a ∧ j < n)) (rowM cond P found n later a)
  | 0 => A.imp fun b j => by simp
  | n + 1 => by
    have ih := Acc.row A a n
    unfold rowM at ih ⊢
    rw [List.range_succ, List.foldl_append]
    refine (ih.step a n).imp fun b j => ?_
    constructor
    · rintro ((h | ⟨h1, h2⟩) | ⟨h1, h2⟩)
      · exact .inl h
      · exact .inr ⟨h1, by omega⟩
      · exact .inr ⟨h1, by omega⟩
    · rintro (h | ⟨h1, h2⟩)
      · exact .inl (.inl h)
      · by_cases e : j = n
        · exact .inr ⟨h1, e⟩
        · exact .inl (.inr ⟨h1, by omega⟩)
theorem Acc.layer {found : Tab} {n : Nat} : ∀ (L : List Vec) {done : Vec → Nat → Prop} {later : Tab}, Acc cond P found done later → Acc cond P found (fun b j => done b j ∨ (b ∈ L ∧ j < n)) (L.foldl (rowM cond P found n) later)
  | [], done, later, A => A.imp fun b j => by simp
  | a :: L, done, later, A => by
    refine (Acc.layer L (A.row a n)).imp fun b j => ?_
    rw [List.mem_cons]
    constructor
    · rintro ((h | ⟨h1, h2⟩) | ⟨h1, h2⟩)
      · exact .inl h
      · exact .inr ⟨.inl h1, h2⟩
      · exact .inr ⟨.inr h1, h2⟩
    · rintro (h | ⟨h1 | h1, h2⟩)
      · exact .inl (.inl h)
      · exact .inl (.inr ⟨h1, h2⟩)
      · exact .inr ⟨h1, h2⟩
end

/-! ### graded nodes -/
structure Grade (P : Mat) (G : List (Vec × Nat)) (cond : Vec → Vec → Bool) : Prop where
  len : ∀ x k, (x, k) ∈ G → x.length = P.length
  fn : ∀ x j k, (x, j) ∈ G → (x, k) ∈ G → j = k
  zero : ∀ x, (x, 0) ∈ G ↔ ∃ i, i < P.length ∧ x = unit P.length i
  down : ∀ x k, (x, k + 1) ∈ G → ∃ i, i < P.length ∧ (turn P x i, k) ∈ G
  up : ∀ a k i, (a, k) ∈ G → i < P.length → cond a (turn P a i) = true → (∀ j, j ≤ k → (turn P a i, j) ∉ G) → (turn P a i, k + 1) ∈ G
  back : ∀ a k i, (a, k) ∈ G → i < P.length → (turn P a i, k + 1) ∈ G → cond a (turn P a i) = true
/-- the least of the shortest ways -/
def way (P : Mat) (G : List (Vec × Nat)) : Nat → Vec → List Int
  | 0, _ => []
  | k + 1, x => match (List.range P.length).find? (fun i => decide ((turn P x i, k) ∈ G)) with
    | some i => (i : Int) :: way P G k (turn P x i)
    | none => []
theorem way_some {P : Mat} {G : List (Vec × Nat)} {k i : Nat} {x : Vec} (e : (List.range P.length).find? (fun i => decide ((turn P x i, k) ∈ G)) = some i) : way P G (k + 1) x = (i : Int) :: way P G k (turn P x i) := by
  show (match (List.range P.length).find? (fun i => decide ((turn P x i, k) ∈ G)) with | some i => (i : Int) :: way P G k (turn P x i) | none => []) = _
  rw [e]
/-- the first of the range -/
theorem find_spec {p : Nat → Bool} : ∀ {n j : Nat}, (List.range n).find? p = some j → j < n ∧ p j = true ∧ ∀ m, m < j → p m = false
  | 0, j, h => by simp at h
  | n + 1, j, h => by
    rw [List.range_succ, List.find?_append] at h
    cases q : (List.range n).find? p with
    | some j' =>
      rw [q] at h
      have e : j' = j := by simpa using h
      subst e
      obtain ⟨h1, h2, h3⟩ := find_spec q
      exact ⟨by omega, h2, h3⟩
    | none =>
      rw [q] at h
      have all : ∀ m, m < n → p m = false := fun m hm => by
        have := List.find?_eq_none.mp q m (List.mem_range.mpr hm)
        simpa using this
      cases r : p n with
      | false => simp [r] at h
      | true =>
        have e : n = j := by simpa [r] using h
        subst e
        exact ⟨by omega, r, all⟩
theorem find_range {n : Nat} {p : Nat → Bool} {i : Nat} (hi : i < n) (hp : p i = true) : ∃ j, (List.range n).find? p = some j ∧ j < n ∧ p j = true ∧ j ≤ i ∧ ∀ m, m < j → p m = false := by
  cases q : (List.range n).find? p with
  | none =>
    have := List.find?_eq_none.mp q i (List.mem_range.mpr hi)
    exact absurd hp this
  | some j =>
    obtain ⟨h1, h2, h3⟩ := find_spec q
    refine ⟨j, rfl, h1, h2, ?_, h3⟩
    by_cases z : i < j
    · rw [h3 i z] at hp
      cases hp
    · omega

section
variable {P : Mat} {G : List (Vec × Nat)} {cond : Vec → Vec → Bool}
def FoundInv (P : Mat) (G : List (Vec × Nat)) (k : Nat) (m : Tab) : Prop := (keysM m).Nodup ∧ ∀ x w, (x, w) ∈ m ↔ ∃ j, j ≤ k ∧ (x, j) ∈ G ∧ w = way P G j x
def LayerInv (G : List (Vec × Nat)) (k : Nat) (L : List Vec) : Prop := ∀ x, x ∈ L ↔ (x, k) ∈ G
theorem FoundInv.fw {k j : Nat} {m : Tab} {x : Vec} (F : FoundInv P G k m) (hj : j ≤ k) (h : (x, j) ∈ G) : fw m x = way P G j x := by
  unfold K31.fw
  rw [mem_look F.1 ((F.2 x _).mpr ⟨j, hj, h, rfl⟩)]
  rfl
theorem FoundInv.key {k : Nat} {m : Tab} {x : Vec} (F : FoundInv P G k m) : x ∈ keysM m ↔ ∃ j, j ≤ k ∧ (x, j) ∈ G := by
  constructor
  · intro h
    obtain ⟨p, hp, rfl⟩ := List.mem_map.mp h
    obtain ⟨j, h1, h2, _⟩ := (F.2 p.1 p.2).mp hp
    exact ⟨j, h1, h2⟩
  · rintro ⟨j, h1, h2⟩
    exact List.mem_map.mpr ⟨_, (F.2 x _).mpr ⟨j, h1, h2, rfl⟩, rfl⟩
/-- the next layer -/
theorem layer_next (S : Shape P) (D : Grade P G cond) {k : Nat} {found : Tab} {L : List Vec} (F : FoundInv P G k found) (hL : LayerInv G k L) :
    (keysM (layerM cond P found P.length L)).Nodup ∧ ∀ x w, (x, w) ∈ layerM cond P found P.length L ↔ (x, k + 1) ∈ G ∧ w = way P G (k + 1) x := by
  have A0 : Acc cond P found (fun _ _ => False) [] := Acc.none
  have A := (Acc.layer (n := P.length) L A0).imp (done' := fun b j => b ∈ L ∧ j < P.length) fun b j => by simp
  have A' : Acc cond P found (fun b j => b ∈ L ∧ j < P.length) (layerM cond P found P.length L) := A
  refine ⟨A'.nd, fun x w => ?_⟩
  have fwd : ∀ w, (x, w) ∈ layerM cond P found P.length L → (x, k + 1) ∈ G ∧ w = way P G (k + 1) x := fun w hm => by
    obtain ⟨h1, a, i, ⟨ha, hi⟩, rfl, hc, rfl⟩ := A'.src x w hm
    have ga : (a, k) ∈ G := (hL a).mp ha
    have gx : (turn P a i, k + 1) ∈ G := D.up a k i ga hi hc fun j hj hg => h1 (F.key.mpr ⟨j, hj, hg⟩)
    refine ⟨gx, ?_⟩
    have la : a.length = P.length := D.len a k ga
    have back : turn P (turn P a i) i = a := turn_turn S la hi
    have hp : decide ((turn P (turn P a i) i, k) ∈ G) = true := decide_eq_true (by rw [back]; exact ga)
    obtain ⟨j, e, h2, h3, h4, _⟩ := find_range (p := fun i' => decide ((turn P (turn P a i) i', k) ∈ G)) hi hp
    rw [way_some e]
    by_cases q : j = i
    · subst q
      rw [back, F.fw (Nat.le_refl _) ga]
    · have gj : (turn P (turn P a i) j, k) ∈ G := of_decide_eq_true h3
      have lx : (turn P a i).length = P.length := by rw [turn_length, la]
      have bj : turn P (turn P (turn P a i) j) j = turn P a i := turn_turn S lx h2
      obtain ⟨w', hw', hl⟩ := A'.all (turn P (turn P a i) j) j ⟨(hL _).mpr gj, h2⟩ (by rw [bj]; exact h1) (D.back _ k j gj h2 (by rw [bj]; exact gx))
      rw [bj] at hw'
      have ew := nd_unique A'.nd hm hw'
      rw [← ew] at hl
      have lt : lexLt ((j : Int) :: fw found (turn P (turn P a i) j)) ((i : Int) :: fw found a) = true := lexLt_cons.mpr (.inl (by omega))
      rw [lt] at hl
      cases hl
  constructor
  · exact fwd w
  · rintro ⟨gx, rfl⟩
    obtain ⟨i, hi, ga⟩ := D.down x k gx
    have lx : x.length = P.length := D.len x _ gx
    have back : turn P (turn P x i) i = x := turn_turn S lx hi
    obtain ⟨w, hw, _⟩ := A'.all (turn P x i) i ⟨(hL _).mpr ga, hi⟩ (by
      rw [back]
      intro z
      obtain ⟨j, h1, h2⟩ := F.key.mp z
      have := D.fn x j (k + 1) h2 gx
      omega) (D.back _ k i ga hi (by rw [back]; exact gx))
    rw [back] at hw
    rw [← (fwd w hw).2]
    exact hw
theorem bfs_step (S : Shape P) (D : Grade P G cond) {k : Nat} {found : Tab} {L : List Vec} (F : FoundInv P G k found) (hL : LayerInv G k L) :
    FoundInv P G (k + 1) (mergeM found (layerM cond P found P.length L)) ∧ LayerInv G (k + 1) (keysM (layerM cond P found P.length L)) := by
  obtain ⟨nd, sp⟩ := layer_next S D F hL
  have key : ∀ x, x ∈ keysM (layerM cond P found P.length L) ↔ (x, k + 1) ∈ G := fun x => by
    constructor
    · intro h
      obtain ⟨p, hp, rfl⟩ := List.mem_map.mp h
      exact ((sp p.1 p.2).mp hp).1
    · intro h
      exact List.mem_map.mpr ⟨_, (sp x _).mpr ⟨h, rfl⟩, rfl⟩
  obtain ⟨nm, hm⟩ := merge_spec (layerM cond P found P.length L) found F.1 nd fun x hx hf => by
    obtain ⟨j, h1, h2⟩ := F.key.mp hf
    have := D.fn x j (k + 1) h2 ((key x).mp hx)
    omega
  refine ⟨⟨nm, fun x w => ?_⟩, key⟩
  rw [hm, F.2, sp]
  constructor
  · rintro (⟨j, h1, h2, h3⟩ | ⟨h1, h2⟩)
    · exact ⟨j, by omega, h2, h3⟩
    · exact ⟨k + 1, Nat.le_refl _, h1, h2⟩
  · rintro ⟨j, h1, h2, h3⟩
    by_cases e : j = k + 1
    · subst e
      exact .inr ⟨h2, h3⟩
    · exact .inl ⟨j, by omega, h2, h3⟩
/-- all are found -/
def AllInv (P : Mat) (G : List (Vec × Nat)) (m : Tab) : Prop := (keysM m).Nodup ∧ ∀ x w, (x, w) ∈ m ↔ ∃ j, (x, j) ∈ G ∧ w = way P G j x
theorem grade_chain (D : Grade P G cond) : ∀ (d k : Nat) (x : Vec), (x, k + d) ∈ G → ∃ y, (y, k) ∈ G
  | 0, k, x, h => ⟨x, h⟩
  | d + 1, k, x, h => by
    obtain ⟨i, _, h2⟩ := D.down x (k + d) h
    exact grade_chain D d k _ h2
theorem bfs_done (D : Grade P G cond) {k : Nat} {found : Tab} (F : FoundInv P G k found) (hL : LayerInv G k []) : AllInv P G found := by
  refine ⟨F.1, fun x w => ?_⟩
  rw [F.2]
  constructor
  · rintro ⟨j, _, h⟩
    exact ⟨j, h⟩
  · rintro ⟨j, h1, h2⟩
    refine ⟨j, ?_, h1, h2⟩
    by_cases z : j ≤ k
    · exact z
    · obtain ⟨y, hy⟩ := grade_chain D (j - k) k x (by rw [show k + (j - k) = j by omega]; exact h1)
      exact absurd ((hL y).mpr hy) List.not_mem_nil
theorem bfs_start (D : Grade P G cond) : FoundInv P G 0 ((List.range P.length).map fun i => (unit P.length i, [])) ∧ LayerInv G 0 ((List.range P.length).map fun i => unit P.length i) := by
  have inj : ∀ i j, i < P.length → unit P.length i = unit P.length j → i = j := fun i j hi e => by
    have h : (unit P.length i)[i]? = (unit P.length j)[i]? := by rw [e]
    unfold unit at h
    rw [List.getElem?_map, List.getElem?_map, List.getElem?_range hi] at h
    by_cases q : i = j
    · exact q
    · simp [q] at h
  refine ⟨⟨?_, fun x w => ?_⟩, fun x => ?_⟩
  · unfold keysM
    rw [List.map_map]
    refine List.pairwise_map.mpr ?_
    refine List.Pairwise.imp_of_mem ?_ (List.nodup_range (n := P.length))
    intro a b ha hb hab e
    exact hab (inj a b (List.mem_range.mp ha) e)
  · constructor
    · intro h
      obtain ⟨i, hi, e⟩ := List.mem_map.mp h
      injection e with e1 e2
      exact ⟨0, Nat.le_refl _, (D.zero x).mpr ⟨i, List.mem_range.mp hi, e1.symm⟩, e2.symm⟩
    · rintro ⟨j, h1, h2, h3⟩
      have e : j = 0 := by omega
      subst e
      obtain ⟨i, hi, e⟩ := (D.zero x).mp h2
      exact List.mem_map.mpr ⟨i, List.mem_range.mpr hi, by rw [h3, e]; rfl⟩
  · constructor
    · intro h
      obtain ⟨i, hi, e⟩ := List.mem_map.mp h
      exact (D.zero x).mpr ⟨i, List.mem_range.mp hi, e.symm⟩
    · intro h
      obtain ⟨i, hi, e⟩ := (D.zero x).mp h
      exact List.mem_map.mpr ⟨i, List.mem_range.mpr hi, e.symm⟩
/-- no more than the nodes -/
theorem nodup_le {α : Type} [DecidableEq α] : ∀ {l m : List α}, l.Nodup → (∀ x ∈ l, x ∈ m) → l.length ≤ m.length
  | [], _, _, _ => Nat.zero_le _
  | a :: l, m, h, hs => by
    obtain ⟨h1, h2⟩ := List.nodup_cons.mp h
    have ha := hs a (List.mem_cons_self ..)
    have ih := nodup_le (l := l) (m := m.erase a) h2 fun x hx => (List.mem_erase_of_ne (by rintro rfl; exact h1 hx)).mpr (hs x (List.mem_cons_of_mem _ hx))
    have hl := List.length_erase_of_mem ha
    have : 0 < m.length := List.length_pos_of_mem ha
    rw [List.length_cons]
    omega
theorem found_le {m : Tab} (nd : (keysM m).Nodup) (h : ∀ x ∈ keysM m, ∃ j, (x, j) ∈ G) : m.length ≤ G.length := by
  have := nodup_le (l := keysM m) (m := G.map (·.1)) nd fun x hx => let ⟨j, hj⟩ := h x hx; List.mem_map.mpr ⟨_, hj, rfl⟩
  simpa [keysM] using this
end
end K31

set_option linter.all false
set_option maxRecDepth 100000
namespace K31
/-! ### the two graphs of a hall: arrows that point up, all arrows -/
def upC (a x : Vec) : Bool := decide (a.sum < x.sum)
def anyC (_ _ : Vec) : Bool := true
def SR (RD : List (Vec × Nat)) : List (Vec × Nat) := RD ++ RD.map fun p => (neg p.1, p.2 + 1)
def upOf (x : Vec) : Vec := if 0 < x.sum then x else neg x
section
variable {P : Mat} {RD : List (Vec × Nat)}
theorem turn_sum {P : Mat} {v : Vec} {i : Nat} (hi : i < v.length) (e : (turn P v i).sum = v.sum) : turn P v i = v := by
  unfold turn at *
  rw [sum_set _ _ _ hi] at e
  have e2 : dot (rowOf P i) v - v.getD i 0 = v.getD i 0 := by omega
  rw [e2]
  exact set_getD_self v i hi
theorem mem_SR {x : Vec} {k : Nat} : (x, k) ∈ SR RD ↔ (x, k) ∈ RD ∨ ∃ v j, (v, j) ∈ RD ∧ x = neg v ∧ k = j + 1 := by
  unfold SR
  rw [List.mem_append, List.mem_map]
  constructor
  · rintro (h | ⟨p, hp, e⟩)
    · exact .inl h
    · injection e with e1 e2
      exact .inr ⟨p.1, p.2, hp, e1.symm, e2.symm⟩
  · rintro (h | ⟨v, j, h, rfl, rfl⟩)
    · exact .inl h
    · exact .inr ⟨(v, j), h, rfl⟩
theorem Roots.not_neg (R : Roots P RD) {v v' : Vec} {j j' : Nat} (h : (v, j) ∈ RD) (h' : (v', j') ∈ RD) : v ≠ neg v' := by
  intro e
  have h1 := R.pos _ h
  have h2 := R.pos _ h'
  have e2 : v.sum = (neg v').sum := by rw [e]
  rw [neg_sum] at e2
  simp only at h1 h2
  omega
theorem Roots.turn_up (R : Roots P RD) {v : Vec} {k i : Nat} (h : (v, k) ∈ RD) (hi : i < P.length) : (v = unit P.length i ∧ turn P v i = neg v ∧ k = 0) ∨ ∃ k', (turn P v i, k') ∈ RD ∧ (v.sum < (turn P v i).sum → k' = k + 1) ∧ ((turn P v i).sum < v.sum → k = k' + 1) ∧ ((turn P v i).sum = v.sum → k' = k) := by
  rcases R.step _ h i hi with ⟨e1, e2⟩ | ⟨q, hq, e, h1, h2⟩
  · left
    refine ⟨e1, e2, ?_⟩
    have u := R.uni i hi
    have e1' : v = unit P.length i := e1
    rw [← e1'] at u
    exact R.fn _ h _ u rfl
  · right
    simp only at e h1 h2
    refine ⟨q.2, by rw [← e]; exact hq, by rw [← e]; exact h1, by rw [← e]; exact h2, fun z => ?_⟩
    have lv := R.len _ h
    have e3 : turn P v i = v := turn_sum (by simp only at lv; omega) z
    rw [e3] at e
    exact R.fn _ hq _ h e
theorem Roots.grade_up (S : Shape P) (R : Roots P RD) : Grade P RD upC where
  len := fun x k h => R.len _ h
  fn := fun x j k h h' => R.fn _ h _ h' rfl
  zero := fun x => ⟨fun h => R.zero _ h rfl, fun ⟨i, hi, e⟩ => by rw [e]; exact R.uni i hi⟩
  down := fun x k h => by
    obtain ⟨i, hi, q, hq, e1, e2⟩ := R.down _ h (Nat.succ_pos _)
    refine ⟨i, hi, ?_⟩
    have e3 : q.2 = k := Nat.succ.inj e2
    have e1' : q.1 = turn P x i := e1
    rw [← e1', ← e3]
    exact hq
  up := fun a k i h hi hc _ => by
    have hc' : a.sum < (turn P a i).sum := of_decide_eq_true hc
    rcases R.turn_up h hi with ⟨_, e2, _⟩ | ⟨k', h1, h2, _⟩
    · have := R.pos _ h
      rw [e2, neg_sum] at hc'
      simp only at this
      omega
    · rw [← h2 hc']
      exact h1
  back := fun a k i h hi hg => by
    refine decide_eq_true ?_
    rcases R.turn_up h hi with ⟨_, e2, _⟩ | ⟨k', h1, h2, h3, h4⟩
    · rw [e2] at hg
      exact absurd rfl (R.not_neg hg h)
    · have e : k' = k + 1 := R.fn _ h1 _ hg rfl
      by_cases z : a.sum < (turn P a i).sum
      · exact z
      · by_cases z2 : (turn P a i).sum < a.sum
        · have := h3 z2
          omega
        · have := h4 (by omega)
          omega
/-- turning leads from arrow to arrow, at most one further -/
theorem Roots.closed (R : Roots P RD) {a : Vec} {k i : Nat} (h : (a, k) ∈ SR RD) (hi : i < P.length) : ∃ k', k' ≤ k + 1 ∧ (turn P a i, k') ∈ SR RD := by
  rcases mem_SR.mp h with h | ⟨v, j, hv, rfl, rfl⟩
  · rcases R.turn_up h hi with ⟨_, e2, _⟩ | ⟨k', h1, h2, h3, h4⟩
    · rw [e2]
      exact ⟨k + 1, Nat.le_refl _, mem_SR.mpr (.inr ⟨a, k, h, rfl, rfl⟩)⟩
    · refine ⟨k', ?_, mem_SR.mpr (.inl h1)⟩
      by_cases z : a.sum < (turn P a i).sum
      · have := h2 z
        omega
      · by_cases z2 : (turn P a i).sum < a.sum
        · have := h3 z2
          omega
        · have := h4 (by omega)
          omega
  · rw [turn_neg]
    rcases R.turn_up hv hi with ⟨_, e2, _⟩ | ⟨k', h1, h2, h3, h4⟩
    · rw [e2, neg_neg]
      exact ⟨j, by omega, mem_SR.mpr (.inl hv)⟩
    · refine ⟨k' + 1, ?_, mem_SR.mpr (.inr ⟨_, k', h1, rfl, rfl⟩)⟩
      by_cases z : v.sum < (turn P v i).sum
      · have := h2 z
        omega
      · by_cases z2 : (turn P v i).sum < v.sum
        · have := h3 z2
          omega
        · have := h4 (by omega)
          omega
theorem Roots.fnS (R : Roots P RD) {x : Vec} {j k : Nat} (h : (x, j) ∈ SR RD) (h' : (x, k) ∈ SR RD) : j = k := by
  rcases mem_SR.mp h with h1 | ⟨v, j1, h1, rfl, rfl⟩
  · rcases mem_SR.mp h' with h2 | ⟨v, j2, h2, rfl, rfl⟩
    · exact R.fn _ h1 _ h2 rfl
    · exact absurd rfl (R.not_neg h1 h2)
  · rcases mem_SR.mp h' with h2 | ⟨v', j2, h2, e, rfl⟩
    · exact absurd rfl (R.not_neg h2 h1)
    · have e' : v = v' := by rw [← neg_neg v, e, neg_neg]
      subst e'
      rw [show j1 = j2 from R.fn _ h1 _ h2 rfl]
theorem Roots.grade_all (S : Shape P) (R : Roots P RD) : Grade P (SR RD) anyC where
  len := fun x k h => by
    rcases mem_SR.mp h with h | ⟨v, j, hv, rfl, rfl⟩
    · exact R.len _ h
    · rw [neg_length]
      exact R.len _ hv
  fn := fun x j k h h' => R.fnS h h'
  zero := fun x => by
    rw [← (R.grade_up S).zero x, mem_SR]
    constructor
    · rintro (h | ⟨_, _, _, _, e⟩)
      · exact h
      · cases e
    · exact .inl
  down := fun x k h => by
    rcases mem_SR.mp h with h | ⟨v, j, h, rfl, e⟩
    · obtain ⟨i, hi, hg⟩ := (R.grade_up S).down x k h
      exact ⟨i, hi, mem_SR.mpr (.inl hg)⟩
    · have e' : k = j := Nat.succ.inj e
      subst e'
      cases k with
      | zero =>
        obtain ⟨i, hi, rfl⟩ := R.zero _ h rfl
        refine ⟨i, hi, ?_⟩
        rcases R.turn_up h hi with ⟨_, e2, _⟩ | ⟨k', h1, h2, h3, h4⟩
        · rw [turn_neg, e2, neg_neg]
          exact mem_SR.mpr (.inl h)
        · rcases R.step _ h i hi with ⟨_, e2⟩ | ⟨q, hq, e1, _, h6⟩
          · rw [turn_neg, e2, neg_neg]
            exact mem_SR.mpr (.inl h)
          · exfalso
            -- a unit turned by its own lamp points down
            have lu : (unit P.length i).length = P.length := unit_length _ _
            have hs : (turn P (unit P.length i) i).sum = 1 - 2 := by
              unfold turn
              rw [sum_set _ _ _ (by omega)]
              have g1 : (unit P.length i).getD i 0 = 1 := by
                unfold unit
                rw [List.getD_eq_getElem?_getD, List.getElem?_map, List.getElem?_range hi]
                simp
              have d0 : dot (rowOf P i) (unit P.length i) = 0 := by
                have z := dot_set (rowOf P i) (unit P.length i) i 0 (by omega) (by rw [S.row_length hi, lu])
                rw [S.diag i hi, Int.zero_mul, Int.add_zero] at z
                rw [← z]
                have zz : (unit P.length i).set i 0 = (List.range P.length).map fun _ => (0 : Int) := by
                  apply List.ext_getElem?
                  intro m
                  rw [List.getElem?_set]
                  unfold unit
                  rw [List.getElem?_map, List.getElem?_map]
                  by_cases hm : m < P.length
                  · rw [List.getElem?_range hm]
                    by_cases q : i = m
                    · subst q
                      simp [hi]
                    · rw [if_neg q]
                      simp [Ne.symm q]
                  · rw [List.getElem?_eq_none (by simpa using hm)]
                    by_cases q : i = m
                    · omega
                    · rw [if_neg q]
                      rfl
                rw [zz]
                have dz : ∀ (a : Vec) (l : List Nat), dot a (l.map fun _ => (0 : Int)) = 0 := by
                  intro a
                  induction a with
                  | nil => intro l; simp [dot]
                  | cons x a ih =>
                    intro l
                    cases l with
                    | nil => simp [dot]
                    | cons y l =>
                      show (x * 0 :: List.zipWith (· * ·) a (l.map fun _ => (0 : Int))).sum = 0
                      rw [List.sum_cons]
                      have := ih l
                      unfold dot at this
                      rw [this]
                      omega
                exact dz _ _
              have s1 : (unit P.length i).sum = 1 := (R.one _ h).mpr rfl
              rw [d0, g1, s1]
              omega
            have := R.pos _ hq
            rw [e1, hs] at this
            omega
      | succ k =>
        obtain ⟨i, hi, hg⟩ := (R.grade_up S).down v k h
        refine ⟨i, hi, ?_⟩
        rw [turn_neg]
        exact mem_SR.mpr (.inr ⟨_, k, hg, rfl, rfl⟩)
  up := fun a k i h hi _ hn => by
    obtain ⟨k', h1, h2⟩ := R.closed h hi
    by_cases e : k' = k + 1
    · rw [← e]
      exact h2
    · exact absurd h2 (hn k' (by omega))
  back := fun _ _ _ _ _ _ => rfl

/-! ### the ways -/
theorem find_congr {α : Type} {p q : α → Bool} : ∀ {l : List α}, (∀ x ∈ l, p x = q x) → l.find? p = l.find? q
  | [], _ => rfl
  | x :: l, h => by
    rw [List.find?_cons, List.find?_cons, h x (List.mem_cons_self ..), find_congr fun y hy => h y (List.mem_cons_of_mem _ hy)]
theorem way_congr {P : Mat} {G G' : List (Vec × Nat)} {k : Nat} {x : Vec} (h : ∀ i, i < P.length → ((turn P x i, k) ∈ G ↔ (turn P x i, k) ∈ G')) (h' : ∀ i, i < P.length → (turn P x i, k) ∈ G → way P G k (turn P x i) = way P G' k (turn P x i)) : way P G (k + 1) x = way P G' (k + 1) x := by
  have e : (List.range P.length).find? (fun i => decide ((turn P x i, k) ∈ G)) = (List.range P.length).find? (fun i => decide ((turn P x i, k) ∈ G')) := find_congr fun i hi => by
    have := h i (List.mem_range.mp hi)
    by_cases z : (turn P x i, k) ∈ G
    · rw [decide_eq_true z, decide_eq_true (this.mp z)]
    · rw [decide_eq_false z, decide_eq_false fun y => z (this.mpr y)]
  cases q : (List.range P.length).find? (fun i => decide ((turn P x i, k) ∈ G)) with
  | none =>
    have q' := q
    rw [e] at q'
    show (match (List.range P.length).find? (fun i => decide ((turn P x i, k) ∈ G)) with | some i => (i : Int) :: way P G k (turn P x i) | none => []) = (match (List.range P.length).find? (fun i => decide ((turn P x i, k) ∈ G')) with | some i => (i : Int) :: way P G' k (turn P x i) | none => [])
    rw [q, q']
  | some i =>
    have q' := q
    rw [e] at q'
    rw [way_some q, way_some q']
    obtain ⟨h1, h2, _⟩ := find_spec q
    rw [h' i h1 (of_decide_eq_true h2)]
theorem Roots.turn_in (R : Roots P RD) {v : Vec} {k i : Nat} (h : (v, k + 1) ∈ RD) (hi : i < P.length) : ∃ k', (turn P v i, k') ∈ RD := by
  rcases R.turn_up h hi with ⟨_, _, e⟩ | ⟨k', h1, _⟩
  · cases e
  · exact ⟨k', h1⟩
theorem Roots.way_up (R : Roots P RD) : ∀ {k : Nat} {v : Vec}, (v, k) ∈ RD → way P (SR RD) k v = way P RD k v
  | 0, _, _ => rfl
  | k + 1, v, h => way_congr (fun i hi => by
      obtain ⟨k', hk'⟩ := R.turn_in h hi
      rw [mem_SR]
      constructor
      · rintro (z | ⟨v', j, z, e, _⟩)
        · exact z
        · rw [e] at hk'
          exact absurd rfl (R.not_neg hk' z)
      · exact .inl) fun i hi hg => by
      obtain ⟨k', hk'⟩ := R.turn_in h hi
      have e := R.fnS hg (mem_SR.mpr (.inl hk'))
      subst e
      exact R.way_up hk'
/-- turned along a way -/
def along (P : Mat) (v : Vec) (w : List Int) : Vec := w.foldl (fun x i => turn P x i.toNat) v
theorem Roots.way_down (S : Shape P) (R : Roots P RD) : ∀ {k : Nat} {v : Vec}, (v, k) ∈ RD → ∃ j, j < P.length ∧ along P v (way P RD k v) = unit P.length j ∧ way P (SR RD) (k + 1) (neg v) = way P RD k v ++ [(j : Int)]
  | 0, v, h => by
    obtain ⟨j, hj, e⟩ := R.zero _ h rfl
    have e' : v = unit P.length j := e
    refine ⟨j, hj, e', ?_⟩
    obtain ⟨i, hi, hg⟩ := (R.grade_all S).down (neg v) 0 (mem_SR.mpr (.inr ⟨v, 0, h, rfl, rfl⟩))
    obtain ⟨m, e1, h1, h2, h3, h4⟩ := find_range (p := fun i' => decide ((turn P (neg v) i', 0) ∈ SR RD)) hi (decide_eq_true hg)
    rw [way_some e1]
    have h2' : (turn P (neg v) m, 0) ∈ SR RD := of_decide_eq_true h2
    have em : m = j := by
      rcases R.turn_up h h1 with ⟨q, _, _⟩ | ⟨k', hk, _⟩
      · have inj : unit P.length j = unit P.length m := e'.symm.trans q
        have hh : (unit P.length j)[m]? = (unit P.length m)[m]? := by rw [inj]
        unfold unit at hh
        rw [List.getElem?_map, List.getElem?_map, List.getElem?_range h1] at hh
        by_cases z : m = j
        · exact z
        · simp [z] at hh
      · rw [turn_neg] at h2'
        rcases mem_SR.mp h2' with z | ⟨_, _, _, _, z⟩
        · exact absurd rfl (R.not_neg z hk)
        · cases z
    rw [em]
    rfl
  | k + 1, v, h => by
    obtain ⟨i, hi, hg⟩ := (R.grade_up S).down v k h
    obtain ⟨m, e1, h1, h2, h3, h4⟩ := find_range (p := fun i' => decide ((turn P v i', k) ∈ RD)) hi (decide_eq_true hg)
    have h2' : (turn P v m, k) ∈ RD := of_decide_eq_true h2
    obtain ⟨j, hj, ea, ew⟩ := R.way_down S h2'
    refine ⟨j, hj, ?_, ?_⟩
    · rw [way_some e1]
      show along P (turn P v (m : Int).toNat) (way P RD k (turn P v m)) = _
      rw [Int.toNat_natCast]
      exact ea
    · have e2 : (List.range P.length).find? (fun i' => decide ((turn P (neg v) i', k + 1) ∈ SR RD)) = some m := by
        rw [← e1]
        refine find_congr fun i' hi' => ?_
        obtain ⟨k', hk'⟩ := R.turn_in h (List.mem_range.mp hi')
        rw [turn_neg]
        have iff : (neg (turn P v i'), k + 1) ∈ SR RD ↔ (turn P v i', k) ∈ RD := by
          rw [mem_SR]
          constructor
          · rintro (z | ⟨v', j', z, e, e3⟩)
            · exact absurd rfl (R.not_neg z hk')
            · have e4 : turn P v i' = v' := by rw [← neg_neg (turn P v i'), e, neg_neg]
              have e5 : k = j' := Nat.succ.inj e3
              rw [e4, e5]
              exact z
          · intro z
            exact .inr ⟨_, k, z, rfl, rfl⟩
        by_cases z : (turn P v i', k) ∈ RD
        · rw [decide_eq_true z, decide_eq_true (iff.mpr z)]
        · rw [decide_eq_false z, decide_eq_false fun y => z (iff.mp y)]
      rw [way_some e2, way_some e1, turn_neg, ew]
      rfl
/-- what the program answers is what the law reckons -/
theorem Roots.way_answer (S : Shape P) (R : Roots P RD) {x : Vec} {k : Nat} (h : (x, k) ∈ SR RD) : ∃ j i, (upOf x, j) ∈ RD ∧ i < P.length ∧ along P (upOf x) (way P RD j (upOf x)) = unit P.length i ∧
    way P (SR RD) k x = if upOf x = x then way P RD j (upOf x) else way P RD j (upOf x) ++ [(i : Int)] := by
  rcases mem_SR.mp h with h | ⟨v, j, hv, rfl, rfl⟩
  · have e : upOf x = x := if_pos (R.pos _ h)
    obtain ⟨i, hi, h1, _⟩ := R.way_down S h
    refine ⟨k, i, by rw [e]; exact h, hi, by rw [e]; exact h1, ?_⟩
    rw [if_pos e, e]
    exact R.way_up h
  · have hp := R.pos _ hv
    have e : upOf (neg v) = v := by
      unfold upOf
      rw [neg_sum, if_neg (by simp only at hp; omega), neg_neg]
    obtain ⟨i, hi, h1, h2⟩ := R.way_down S hv
    refine ⟨j, i, by rw [e]; exact hv, hi, by rw [e]; exact h1, ?_⟩
    rw [e, if_neg (R.not_neg hv hv)]
    exact h2
theorem Roots.upOf_in (R : Roots P RD) {x : Vec} {k : Nat} (h : (x, k) ∈ SR RD) : ∃ j, (upOf x, j) ∈ RD := by
  rcases mem_SR.mp h with h | ⟨v, j, hv, rfl, rfl⟩
  · exact ⟨k, by rw [show upOf x = x from if_pos (R.pos _ h)]; exact h⟩
  · have hp := R.pos _ hv
    have e : upOf (neg v) = v := by
      unfold upOf
      rw [neg_sum, if_neg (by simp only at hp; omega), neg_neg]
    exact ⟨j, by rw [e]; exact hv⟩
/-- a way is empty just for a unit: the sum tells it -/
theorem Roots.unit_iff (S : Shape P) (R : Roots P RD) {x : Vec} {k : Nat} (h : (x, k) ∈ SR RD) : way P (SR RD) k x = [] ↔ x.sum = 1 := by
  rcases mem_SR.mp h with h' | ⟨v, j, h', rfl, rfl⟩
  · rw [(R.one _ h' : x.sum = 1 ↔ k = 0)]
    cases k with
    | zero => exact ⟨fun _ => rfl, fun _ => rfl⟩
    | succ k =>
      obtain ⟨i, hi, hg⟩ := (R.grade_all S).down x k h
      obtain ⟨m, e1, _⟩ := find_range (p := fun i' => decide ((turn P x i', k) ∈ SR RD)) hi (decide_eq_true hg)
      rw [way_some e1]
      constructor <;> intro z <;> cases z
  · have hp := R.pos _ h'
    constructor
    · intro z
      obtain ⟨i, hi, hg⟩ := (R.grade_all S).down (neg v) j h
      obtain ⟨m, e1, _⟩ := find_range (p := fun i' => decide ((turn P (neg v) i', j) ∈ SR RD)) hi (decide_eq_true hg)
      rw [way_some e1] at z
      cases z
    · intro z
      rw [neg_sum] at z
      simp only at hp
      omega
/-- twice as many -/
theorem Roots.twice (S : Shape P) (R : Roots P RD) {m l : Tab} (A : AllInv P RD m) (B : AllInv P (SR RD) l) : l.length = 2 * m.length := by
  have km : ∀ x, x ∈ keysM m ↔ ∃ j, (x, j) ∈ RD := fun x => by
    constructor
    · intro h
      obtain ⟨p, hp, rfl⟩ := List.mem_map.mp h
      obtain ⟨j, h1, _⟩ := (A.2 p.1 p.2).mp hp
      exact ⟨j, h1⟩
    · rintro ⟨j, h1⟩
      exact List.mem_map.mpr ⟨_, (A.2 x _).mpr ⟨j, h1, rfl⟩, rfl⟩
  have kl : ∀ x, x ∈ keysM l ↔ ∃ j, (x, j) ∈ SR RD := fun x => by
    constructor
    · intro h
      obtain ⟨p, hp, rfl⟩ := List.mem_map.mp h
      obtain ⟨j, h1, _⟩ := (B.2 p.1 p.2).mp hp
      exact ⟨j, h1⟩
    · rintro ⟨j, h1⟩
      exact List.mem_map.mpr ⟨_, (B.2 x _).mpr ⟨j, h1, rfl⟩, rfl⟩
  have all : ∀ x, x ∈ keysM l ↔ x ∈ keysM m ++ (keysM m).map neg := fun x => by
    rw [kl, List.mem_append, List.mem_map]
    constructor
    · rintro ⟨j, h⟩
      rcases mem_SR.mp h with h | ⟨v, j', hv, rfl, rfl⟩
      · exact .inl ((km x).mpr ⟨j, h⟩)
      · exact .inr ⟨v, (km v).mpr ⟨j', hv⟩, rfl⟩
    · rintro (h | ⟨v, h, rfl⟩)
      · obtain ⟨j, h⟩ := (km x).mp h
        exact ⟨j, mem_SR.mpr (.inl h)⟩
      · obtain ⟨j, h⟩ := (km v).mp h
        exact ⟨j + 1, mem_SR.mpr (.inr ⟨v, j, h, rfl, rfl⟩)⟩
  have nd2 : (keysM m ++ (keysM m).map neg).Nodup := by
    rw [List.nodup_append]
    refine ⟨A.1, ?_, ?_⟩
    · refine List.pairwise_map.mpr (A.1.imp ?_)
      intro a b hab e
      apply hab
      rw [← neg_neg a, e, neg_neg]
    · intro a ha b hb e
      obtain ⟨v, hv, rfl⟩ := List.mem_map.mp hb
      obtain ⟨j, h1⟩ := (km a).mp ha
      obtain ⟨j', h2⟩ := (km v).mp hv
      exact R.not_neg h1 h2 e
  have e1 := nodup_le B.1 fun x hx => (all x).mp hx
  have e2 := nodup_le nd2 fun x hx => (all x).mpr hx
  have e3 : (keysM m ++ (keysM m).map neg).length = 2 * m.length := by
    simp [keysM]
    omega
  have e4 : (keysM l).length = l.length := by simp [keysM]
  omega
theorem unit_index {n i : Nat} (hi : i < n) : (unit n i)[i]? = some 1 ∧ ∀ m, m < i → (unit n i)[m]? = some 0 := by
  unfold unit
  refine ⟨?_, fun m hm => ?_⟩
  · rw [List.getElem?_map, List.getElem?_range hi]
    simp
  · rw [List.getElem?_map, List.getElem?_range (by omega)]
    simp
    omega
end
end K31

set_option linter.all false
set_option maxRecDepth 100000
namespace K31
/-! ### the pushes that the law draws -/
def zeros (n : Nat) : Vec := List.replicate n 0
def setM (M : Mat) (i j : Nat) (x : Int) : Mat := M.set i ((rowOf M i).set j x)
/-- letters: 0 a, 1 b, 2 c, 3 d, 4 e, 5 f, 6 g -/
def mateOf (c m k : Nat) : Nat := if (c = 3 ∨ c = 4) ∧ k = m - 1 then (if c = 3 then m - 3 else 2) else k - 1
def chainM (c m : Nat) : Nat → Mat
  | 0 => List.replicate m (zeros m)
  | k + 1 => setM (setM (chainM c m k) (k + 1) (mateOf c m (k + 1)) 1) (mateOf c m (k + 1)) (k + 1) 1
def named (c m : Nat) : Mat :=
  let A := chainM c m (m - 1)
  if c = 1 then setM A (m - 2) (m - 1) 2 else if c = 2 then setM A (m - 1) (m - 2) 2 else if c = 5 then setM A 1 2 2 else if c = 6 then setM A 0 1 3 else A
def rep {α : Type} (x : α) (b : Bool) : List α := if b then [x] else []
def namesAt (m : Nat) : List (Nat × Nat) := [(0, m)] ++ rep (1, m) (decide (m > 1)) ++ rep (2, m) (decide (m > 2)) ++ rep (3, m) (decide (m > 3)) ++ rep (4, m) (decide (m > 5)) ++ rep (5, m) (decide (m = 4)) ++ rep (6, m) (decide (m = 2))
def namesOf : Nat → List (Nat × Nat)
  | 0 => []
  | k + 1 => namesOf k ++ namesAt (k + 1)
def besideM (A B : Mat) : Mat := A.map (fun r => r ++ zeros B.length) ++ B.map fun r => zeros A.length ++ r
def mixedM (P : Mat) (o : List Nat) : Mat := o.map fun i => o.map fun j => (rowOf P i).getD j 0
def extM (A : Mat) : List Mat := if A.length < 5 then (namesOf (5 - A.length)).map fun t => besideM A (named t.1 t.2) else []
def can0 : List Mat := (namesOf 5).map fun t => named t.1 t.2
def can1 : List Mat := can0.flatMap extM
def can2 : List Mat := can1.flatMap extM
/-! ### the checks -/
def allLt (n : Nat) (p : Nat → Bool) : Bool := (List.range n).all p
def anyLt (n : Nat) (p : Nat → Bool) : Bool := (List.range n).any p
theorem allLt_ok {n : Nat} {p : Nat → Bool} (h : allLt n p = true) {i : Nat} (hi : i < n) : p i = true := List.all_eq_true.mp h i (List.mem_range.mpr hi)
theorem anyLt_ok {n : Nat} {p : Nat → Bool} (h : anyLt n p = true) : ∃ i, i < n ∧ p i = true := by
  obtain ⟨i, hi, h⟩ := List.any_eq_true.mp h
  exact ⟨i, List.mem_range.mp hi, h⟩
def shapeB (P : Mat) : Bool :=
  decide (1 ≤ P.length) && (decide (P.length ≤ 8) && (P.all (fun r => decide (r.length = P.length)) && (P.all (fun r => r.all fun x => decide (0 ≤ x) && decide (x ≤ 4)) &&
  (allLt P.length (fun i => decide ((rowOf P i).getD i 0 = 0)) && allLt P.length fun i => allLt P.length fun j => decide ((rowOf P i).getD j 0 = 0) == decide ((rowOf P j).getD i 0 = 0)))))
theorem ba' {a b : Bool} (h : (a && b) = true) : a = true ∧ b = true := Bool.and_eq_true_iff.mp h
theorem shapeB_ok {P : Mat} (h : shapeB P = true) : Shape P := by
  obtain ⟨h1, h⟩ := ba' h
  obtain ⟨h2, h⟩ := ba' h
  obtain ⟨h3, h⟩ := ba' h
  obtain ⟨h4, h⟩ := ba' h
  obtain ⟨h5, h6⟩ := ba' h
  refine ⟨of_decide_eq_true h1, of_decide_eq_true h2, fun r hr => of_decide_eq_true (List.all_eq_true.mp h3 r hr), fun r hr x hx => ?_, fun i hi => of_decide_eq_true (allLt_ok h5 hi), fun i j hi hj => ?_⟩
  · obtain ⟨z1, z2⟩ := ba' (List.all_eq_true.mp (List.all_eq_true.mp h4 r hr) x hx)
    exact ⟨of_decide_eq_true z1, of_decide_eq_true z2⟩
  · have z := allLt_ok (allLt_ok h6 hi) hj
    have e : decide ((rowOf P i).getD j 0 = 0) = decide ((rowOf P j).getD i 0 = 0) := by simpa using z
    by_cases q : (rowOf P j).getD i 0 = 0
    · rw [decide_eq_true q] at e
      exact ⟨fun _ => q, fun _ => of_decide_eq_true e⟩
    · rw [decide_eq_false q] at e
      exact ⟨fun z => absurd z (of_decide_eq_false e), fun z => absurd z q⟩
def witB (P : Mat) (u : Vec) : Bool := decide (u.length = P.length) && (u.all (fun x => decide (1 ≤ x) && decide (x ≤ 400)) && allLt P.length fun i => decide (dot (rowOf P i) u < 2 * u.getD i 0))
theorem witB_ok {P : Mat} {u : Vec} (h : witB P u = true) : Wit P u := by
  obtain ⟨h1, h⟩ := ba' h
  obtain ⟨h2, h3⟩ := ba' h
  refine ⟨of_decide_eq_true h1, fun x hx => ?_, fun i hi => of_decide_eq_true (allLt_ok h3 hi)⟩
  obtain ⟨z1, z2⟩ := ba' (List.all_eq_true.mp h2 x hx)
  exact ⟨of_decide_eq_true z1, of_decide_eq_true z2⟩
def eqV : Vec → Vec → Bool
  | [], [] => true
  | x :: xs, y :: ys => (decide (x = y)) && eqV xs ys
  | _, _ => false
theorem eqV_ok : ∀ {a b : Vec}, eqV a b = true ↔ a = b
  | [], [] => ⟨fun _ => rfl, fun _ => rfl⟩
  | [], _ :: _ => ⟨fun h => (nomatch h), fun h => (nomatch h)⟩
  | _ :: _, [] => ⟨fun h => (nomatch h), fun h => (nomatch h)⟩
  | x :: xs, y :: ys => by
    show (decide (x = y) && eqV xs ys) = true ↔ _
    rw [Bool.and_eq_true_iff, eqV_ok (a := xs) (b := ys), decide_eq_true_iff]
    constructor
    · rintro ⟨rfl, rfl⟩
      rfl
    · intro h
      injection h with h1 h2
      exact ⟨h1, h2⟩
def stepB (P : Mat) (RD : List (Vec × Nat)) (p : Vec × Nat) (i : Nat) : Bool :=
  let t := turn P p.1 i
  (eqV p.1 (unit P.length i) && eqV t (neg p.1)) || RD.any fun q => eqV q.1 t && ((!decide (p.1.sum < q.1.sum) || decide (q.2 = p.2 + 1)) && (!decide (q.1.sum < p.1.sum) || decide (p.2 = q.2 + 1)))
def rootB (P : Mat) (RD : List (Vec × Nat)) (p : Vec × Nat) : Bool :=
  decide (p.1.length = P.length) && (p.1.all (fun x => decide (0 ≤ x)) && (decide (0 < p.1.sum) && ((decide (p.1.sum = 1) == decide (p.2 = 0)) && (allLt P.length (stepB P RD p) &&
  ((!decide (p.2 = 0) || anyLt P.length fun i => eqV p.1 (unit P.length i)) && (decide (p.2 = 0) || anyLt P.length fun i => RD.any fun q => eqV q.1 (turn P p.1 i) && decide (q.2 + 1 = p.2)))))))
def ndB : List (Vec × Nat) → Bool
  | [] => true
  | p :: r => r.all (fun q => !eqV p.1 q.1) && ndB r
theorem ndB_ok : ∀ {RD : List (Vec × Nat)}, ndB RD = true → ∀ p ∈ RD, ∀ q ∈ RD, p.1 = q.1 → p.2 = q.2
  | [], _, p, hp, _, _, _ => by cases hp
  | a :: r, h, p, hp, q, hq, e => by
    obtain ⟨h1, h2⟩ := ba' (show (r.all (fun q => !eqV a.1 q.1) && ndB r) = true from h)
    have ne : ∀ b ∈ r, a.1 ≠ b.1 := fun b hb z => by
      have := List.all_eq_true.mp h1 b hb
      rw [eqV_ok.mpr z] at this
      cases this
    rcases List.mem_cons.mp hp with e1 | hp1 <;> rcases List.mem_cons.mp hq with e2 | hq1
    · rw [e1, e2]
    · exact absurd (e1 ▸ e) (ne q hq1)
    · exact absurd (e2 ▸ e.symm) (ne p hp1)
    · exact ndB_ok h2 p hp1 q hq1 e
def rootsB (P : Mat) (RD : List (Vec × Nat)) : Bool := decide (RD.length ≤ 1000) && (ndB RD && (allLt P.length (fun i => RD.any fun q => eqV q.1 (unit P.length i) && decide (q.2 = 0)) && RD.all (rootB P RD)))
theorem rootsB_ok {P : Mat} {RD : List (Vec × Nat)} (h : rootsB P RD = true) : Roots P RD := by
  obtain ⟨h1, h⟩ := ba' h
  obtain ⟨h2, h⟩ := ba' h
  obtain ⟨h3, h4⟩ := ba' h
  have R : ∀ p ∈ RD, p.1.length = P.length ∧ (∀ x ∈ p.1, 0 ≤ x) ∧ 0 < p.1.sum ∧ (p.1.sum = 1 ↔ p.2 = 0) ∧ (∀ i, i < P.length → stepB P RD p i = true) ∧ (p.2 = 0 → ∃ i, i < P.length ∧ p.1 = unit P.length i) ∧
      (0 < p.2 → ∃ i, i < P.length ∧ ∃ q ∈ RD, q.1 = turn P p.1 i ∧ q.2 + 1 = p.2) := fun p hp => by
    have z := List.all_eq_true.mp h4 p hp
    obtain ⟨z1, z⟩ := ba' z
    obtain ⟨z2, z⟩ := ba' z
    obtain ⟨z3, z⟩ := ba' z
    obtain ⟨z4, z⟩ := ba' z
    obtain ⟨z5, z⟩ := ba' z
    obtain ⟨z6, z7⟩ := ba' z
    refine ⟨of_decide_eq_true z1, fun x hx => of_decide_eq_true (List.all_eq_true.mp z2 x hx), of_decide_eq_true z3, ?_, fun i hi => allLt_ok z5 hi, fun q => ?_, fun q => ?_⟩
    · have e : decide (p.1.sum = 1) = decide (p.2 = 0) := by simpa using z4
      by_cases q : p.2 = 0
      · rw [decide_eq_true q] at e
        exact ⟨fun _ => q, fun _ => of_decide_eq_true e⟩
      · rw [decide_eq_false q] at e
        exact ⟨fun z => absurd z (of_decide_eq_false e), fun z => absurd z q⟩
    · rw [decide_eq_true q] at z6
      obtain ⟨i, hi, e⟩ := anyLt_ok (show anyLt P.length (fun i => eqV p.1 (unit P.length i)) = true by simpa using z6)
      exact ⟨i, hi, eqV_ok.mp e⟩
    · rw [decide_eq_false (by omega : ¬ p.2 = 0)] at z7
      obtain ⟨i, hi, e⟩ := anyLt_ok (show anyLt P.length (fun i => RD.any fun q => eqV q.1 (turn P p.1 i) && decide (q.2 + 1 = p.2)) = true by simpa using z7)
      obtain ⟨r, hr, e⟩ := List.any_eq_true.mp e
      obtain ⟨e1, e2⟩ := ba' e
      exact ⟨i, hi, r, hr, eqV_ok.mp e1, of_decide_eq_true e2⟩
  refine ⟨fun p hp => (R p hp).1, fun p hp => (R p hp).2.1, of_decide_eq_true h1, ndB_ok h2, fun i hi => ?_, fun p hp => (R p hp).2.2.2.2.2.1, fun p hp => (R p hp).2.2.1, fun p hp => (R p hp).2.2.2.1, fun p hp i hi => ?_, fun p hp => (R p hp).2.2.2.2.2.2⟩
  · obtain ⟨q, hq, e⟩ := List.any_eq_true.mp (allLt_ok h3 hi)
    obtain ⟨e1, e2⟩ := ba' e
    have e1' := eqV_ok.mp e1
    have e2' : q.2 = 0 := of_decide_eq_true e2
    rw [← e1', ← e2']
    exact hq
  · have z := (R p hp).2.2.2.2.1 i hi
    unfold stepB at z
    rcases Bool.or_eq_true_iff.mp z with z | z
    · obtain ⟨z1, z2⟩ := ba' z
      exact .inl ⟨eqV_ok.mp z1, eqV_ok.mp z2⟩
    · obtain ⟨q, hq, e⟩ := List.any_eq_true.mp z
      obtain ⟨e1, e⟩ := ba' e
      obtain ⟨e2, e3⟩ := ba' e
      refine .inr ⟨q, hq, eqV_ok.mp e1, fun y => ?_, fun y => ?_⟩
      · rw [decide_eq_true y] at e2
        simpa using e2
      · rw [decide_eq_true y] at e3
        simpa using e3
/-- a witness, the arrows that point up: reckoned -/
def witR (P : Mat) : Nat → Vec → Vec
  | 0, u => u
  | f + 1, u => witR P f ((List.range P.length).map fun i => max (u.getD i 0) ((dot (rowOf P i) u + 2) / 2))
def witOf (P : Mat) : Vec := witR P 40 (List.replicate P.length 1)
def addR (acc : List (Vec × Nat)) (v : Vec) (k : Nat) : List (Vec × Nat) := if acc.any (fun q => eqV q.1 v) then acc else acc ++ [(v, k)]
def rootR (P : Mat) : Nat → Nat → List (Vec × Nat) → List (Vec × Nat)
  | 0, _, acc => acc
  | f + 1, k, acc => rootR P f (k + 1) (acc.foldl (fun a p => if p.2 = k then (List.range P.length).foldl (fun a i => let t := turn P p.1 i; if p.1.sum < t.sum then addR a t (k + 1) else a) a else a) acc)
def rootsOf (P : Mat) : List (Vec × Nat) := rootR P 8 0 ((List.range P.length).map fun i => (unit P.length i, 0))
def goodB (P : Mat) : Bool := shapeB P && (witB P (witOf P) && rootsB P (rootsOf P))
theorem goodB_ok {P : Mat} (h : goodB P = true) : Good P := by
  obtain ⟨h1, h⟩ := ba' h
  obtain ⟨h2, h3⟩ := ba' h
  exact ⟨shapeB_ok h1, ⟨_, witB_ok h2⟩, ⟨_, rootsB_ok h3⟩⟩
theorem can0_good : can0.all goodB = true := by decide +kernel
theorem can1_good : can1.all goodB = true := by decide +kernel
theorem can2_good : can2.all goodB = true := by decide +kernel
end K31

set_option linter.all false
set_option maxRecDepth 100000
namespace K31
/-! ### lamps in another order -/
def pm (o : List Nat) (v : Vec) : Vec := o.map fun i => v.getD i 0
section
variable {n : Nat} {o : List Nat} (hp : o.Perm (List.range n))
theorem self_range : ∀ {a : Vec} {n : Nat}, a.length = n → a = (List.range n).map fun i => a.getD i 0 := fun {a n} h => by
  apply List.ext_getElem?
  intro m
  rw [List.getElem?_map]
  by_cases hm : m < n
  · rw [List.getElem?_range hm, List.getElem?_eq_getElem (by omega), Option.map_some, List.getD_eq_getElem?_getD, List.getElem?_eq_getElem (by omega)]
    rfl
  · rw [List.getElem?_eq_none (by omega), List.getElem?_eq_none (by simp; omega)]
    rfl
theorem dot_map (f g : Nat → Int) : ∀ l : List Nat, dot (l.map f) (l.map g) = (l.map fun i => f i * g i).sum
  | [] => rfl
  | x :: l => by
    have ih := dot_map f g l
    show ((f x * g x) :: List.zipWith (· * ·) (l.map f) (l.map g)).sum = ((f x * g x) :: l.map fun i => f i * g i).sum
    rw [List.sum_cons, List.sum_cons]
    have e : (List.zipWith (· * ·) (l.map f) (l.map g)).sum = (l.map fun i => f i * g i).sum := ih
    rw [e]
theorem perm_sumI {l m : List Int} (h : l.Perm m) : l.sum = m.sum := by
  induction h with
  | nil => rfl
  | cons x _ ih => rw [List.sum_cons, List.sum_cons, ih]
  | swap x y l => simp only [List.sum_cons]; omega
  | trans _ _ ih1 ih2 => rw [ih1, ih2]
include hp
theorem o_len : o.length = n := by rw [hp.length_eq, List.length_range]
theorem o_mem {i : Nat} : i ∈ o ↔ i < n := by rw [hp.mem_iff, List.mem_range]
theorem o_nd : o.Nodup := hp.nodup_iff.mpr List.nodup_range
theorem o_at {k : Nat} (hk : k < n) : o[k]? = some (o.getD k 0) ∧ o.getD k 0 < n := by
  have hl := o_len hp
  have e : o[k]? = some o[k] := List.getElem?_eq_getElem (by omega)
  have e2 : o.getD k 0 = o[k] := by rw [List.getD_eq_getElem?_getD, e]; rfl
  rw [e2]
  exact ⟨e, (o_mem hp).mp (List.getElem_mem _)⟩
theorem o_inj {j k : Nat} (hj : j < n) (hk : k < n) (e : o.getD j 0 = o.getD k 0) : j = k := by
  have h1 := (o_at hp hj).1
  have h2 := (o_at hp hk).1
  rw [e] at h1
  have hl := o_len hp
  exact (List.getElem_inj (h₀ := by omega) (h₁ := by omega) (o_nd hp)).mp (Option.some.inj ((List.getElem?_eq_getElem (by omega)).symm.trans (h1.trans (h2.symm.trans (List.getElem?_eq_getElem (by omega))))))
theorem o_surj {i : Nat} (hi : i < n) : ∃ k, k < n ∧ o.getD k 0 = i := by
  obtain ⟨k, hk, e⟩ := List.mem_iff_getElem.mp ((o_mem hp).mpr hi)
  have hl := o_len hp
  refine ⟨k, by omega, ?_⟩
  rw [List.getD_eq_getElem?_getD, List.getElem?_eq_getElem hk, e]
  rfl
theorem pm_len (v : Vec) : (pm o v).length = n := by
  unfold pm
  rw [List.length_map, o_len hp]
theorem pm_at (v : Vec) {k : Nat} (hk : k < n) : (pm o v)[k]? = some (v.getD (o.getD k 0) 0) := by
  unfold pm
  rw [List.getElem?_map, (o_at hp hk).1]
  rfl
theorem pm_getD (v : Vec) {k : Nat} (hk : k < n) : (pm o v).getD k 0 = v.getD (o.getD k 0) 0 := by
  rw [List.getD_eq_getElem?_getD, pm_at hp v hk]
  rfl
theorem pm_sum {v : Vec} (hv : v.length = n) : (pm o v).sum = v.sum := by
  have e := self_range hv
  have h1 : (pm o v).sum = ((List.range n).map fun i => v.getD i 0).sum := perm_sumI (hp.map _)
  rw [h1, ← e]
theorem pm_dot {a b : Vec} (ha : a.length = n) (hb : b.length = n) : dot (pm o a) (pm o b) = dot a b := by
  have e1 : dot a b = dot ((List.range n).map fun i => a.getD i 0) ((List.range n).map fun i => b.getD i 0) := by rw [← self_range ha, ← self_range hb]
  rw [e1, dot_map]
  unfold pm
  rw [dot_map]
  exact perm_sumI (hp.map _)
theorem pm_inj {a b : Vec} (ha : a.length = n) (hb : b.length = n) (e : pm o a = pm o b) : a = b := by
  rw [self_range ha, self_range hb]
  apply List.map_congr_left
  intro i hi
  obtain ⟨k, hk, rfl⟩ := o_surj hp (List.mem_range.mp hi)
  rw [← pm_getD hp a hk, ← pm_getD hp b hk, e]
theorem pm_neg (v : Vec) : pm o (neg v) = neg (pm o v) := by
  unfold pm
  conv => rhs; unfold neg
  rw [List.map_map]
  apply List.map_congr_left
  intro i _
  exact neg_getD v i
theorem pm_unit {k : Nat} (hk : k < n) : pm o (unit n (o.getD k 0)) = unit n k := by
  apply List.ext_getElem?
  intro m
  by_cases hm : m < n
  · rw [pm_at hp _ hm]
    obtain ⟨_, h1⟩ := o_at hp hm
    unfold unit
    rw [List.getD_eq_getElem?_getD, List.getElem?_map, List.getElem?_range h1, List.getElem?_map, List.getElem?_range hm]
    show some (if o.getD m 0 = o.getD k 0 then (1 : Int) else 0) = some (if m = k then 1 else 0)
    by_cases q : m = k
    · rw [q, if_pos rfl, if_pos rfl]
    · rw [if_neg q, if_neg fun z => q (o_inj hp hm hk z)]
  · rw [List.getElem?_eq_none (by rw [pm_len hp]; omega), List.getElem?_eq_none (by rw [unit_length]; omega)]
theorem pm_set {v : Vec} (hv : v.length = n) {k : Nat} (hk : k < n) (x : Int) : pm o (v.set (o.getD k 0) x) = (pm o v).set k x := by
  apply List.ext_getElem?
  intro m
  by_cases hm : m < n
  · rw [pm_at hp _ hm, List.getElem?_set, pm_len hp, pm_at hp _ hm]
    obtain ⟨_, h1⟩ := o_at hp hk
    by_cases q : k = m
    · subst q
      rw [if_pos rfl, if_pos hk, getD_set_self _ _ _ (by omega)]
    · rw [if_neg q, List.getD_eq_getElem?_getD (l := v.set _ _), List.getElem?_set_ne fun z => q (o_inj hp hk hm z), ← List.getD_eq_getElem?_getD]
  · rw [List.getElem?_eq_none (by rw [pm_len hp]; omega), List.getElem?_eq_none (by rw [List.length_set, pm_len hp]; omega)]
end
section
variable {M : Mat} {o : List Nat} (hp : o.Perm (List.range M.length))
include hp
theorem mix_len : (mixedM M o).length = M.length := by
  unfold mixedM
  rw [List.length_map, o_len hp]
theorem mix_row {k : Nat} (hk : k < M.length) : rowOf (mixedM M o) k = pm o (rowOf M (o.getD k 0)) := by
  unfold rowOf mixedM
  rw [List.getD_eq_getElem?_getD, List.getElem?_map, (o_at hp hk).1]
  rfl
theorem mix_turn (S : Shape M) {v : Vec} (hv : v.length = M.length) {k : Nat} (hk : k < M.length) : turn (mixedM M o) (pm o v) k = pm o (turn M v (o.getD k 0)) := by
  obtain ⟨_, h1⟩ := o_at hp hk
  unfold turn
  rw [mix_row hp hk, pm_dot hp (S.row_length h1) hv, pm_getD hp v hk, pm_set hp hv hk]
theorem mix_shape (S : Shape M) : Shape (mixedM M o) where
  pos := by rw [mix_len hp]; exact S.pos
  le := by rw [mix_len hp]; exact S.le
  rows := fun r hr => by
    obtain ⟨i, _, rfl⟩ := List.mem_map.mp hr
    rw [mix_len hp, List.length_map, o_len hp]
  ent := fun r hr x hx => by
    obtain ⟨i, hi, rfl⟩ := List.mem_map.mp hr
    obtain ⟨j, hj, rfl⟩ := List.mem_map.mp hx
    have hi' := (o_mem hp).mp hi
    have hj' := (o_mem hp).mp hj
    have hl := S.row_length hi'
    rw [List.getD_eq_getElem?_getD, List.getElem?_eq_getElem (by omega)]
    exact S.ent _ (rowOf_mem hi') _ (List.getElem_mem _)
  diag := fun i hi => by
    rw [mix_len hp] at hi
    rw [mix_row hp hi, pm_getD hp _ hi]
    exact S.diag _ (o_at hp hi).2
  sym := fun i j hi hj => by
    rw [mix_len hp] at hi hj
    rw [mix_row hp hi, mix_row hp hj, pm_getD hp _ hj, pm_getD hp _ hi]
    exact S.sym _ _ (o_at hp hi).2 (o_at hp hj).2
theorem mix_wit (S : Shape M) {u : Vec} (W : Wit M u) : Wit (mixedM M o) (pm o u) where
  len := by rw [pm_len hp, mix_len hp]
  bnd := fun x hx => by
    obtain ⟨i, hi, rfl⟩ := List.mem_map.mp hx
    have hi' := (o_mem hp).mp hi
    have hl := W.len
    rw [List.getD_eq_getElem?_getD, List.getElem?_eq_getElem (by omega)]
    exact W.bnd _ (List.getElem_mem _)
  less := fun i hi => by
    rw [mix_len hp] at hi
    rw [mix_row hp hi, pm_dot hp (S.row_length (o_at hp hi).2) W.len, pm_getD hp _ hi]
    exact W.less _ (o_at hp hi).2
theorem mix_roots (S : Shape M) {RD : List (Vec × Nat)} (R : Roots M RD) : Roots (mixedM M o) (RD.map fun p => (pm o p.1, p.2)) where
  len := fun p hz => by
    obtain ⟨q, hq, rfl⟩ := List.mem_map.mp hz
    show (pm o q.1).length = _
    rw [pm_len hp, mix_len hp]
  nn := fun p hz x hx => by
    obtain ⟨q, hq, rfl⟩ := List.mem_map.mp hz
    obtain ⟨i, hi, rfl⟩ := List.mem_map.mp hx
    have hi' := (o_mem hp).mp hi
    have hl := R.len q hq
    rw [List.getD_eq_getElem?_getD, List.getElem?_eq_getElem (by omega)]
    exact R.nn q hq _ (List.getElem_mem _)
  bnd := by rw [List.length_map]; exact R.bnd
  fn := fun p hp1 q hq1 e => by
    obtain ⟨p, hp2, rfl⟩ := List.mem_map.mp hp1
    obtain ⟨q, hq2, rfl⟩ := List.mem_map.mp hq1
    exact R.fn p hp2 q hq2 (pm_inj hp (R.len p hp2) (R.len q hq2) e)
  uni := fun i hi => by
    rw [mix_len hp] at hi ⊢
    exact List.mem_map.mpr ⟨_, R.uni _ (o_at hp hi).2, by rw [pm_unit hp hi]⟩
  zero := fun p hz e => by
    obtain ⟨q, hq, rfl⟩ := List.mem_map.mp hz
    obtain ⟨i, hi, e2⟩ := R.zero q hq e
    obtain ⟨k, hk, rfl⟩ := o_surj hp hi
    rw [mix_len hp]
    exact ⟨k, hk, by rw [e2, pm_unit hp hk]⟩
  pos := fun p hz => by
    obtain ⟨q, hq, rfl⟩ := List.mem_map.mp hz
    show 0 < (pm o q.1).sum
    rw [pm_sum hp (R.len q hq)]
    exact R.pos q hq
  one := fun p hz => by
    obtain ⟨q, hq, rfl⟩ := List.mem_map.mp hz
    show (pm o q.1).sum = 1 ↔ q.2 = 0
    rw [pm_sum hp (R.len q hq)]
    exact R.one q hq
  step := fun p hz i hi => by
    obtain ⟨q, hq, rfl⟩ := List.mem_map.mp hz
    rw [mix_len hp] at hi ⊢
    show (pm o q.1 = unit M.length i ∧ turn (mixedM M o) (pm o q.1) i = neg (pm o q.1)) ∨ ∃ r ∈ RD.map (fun p => (pm o p.1, p.2)), r.1 = turn (mixedM M o) (pm o q.1) i ∧ ((pm o q.1).sum < r.1.sum → r.2 = q.2 + 1) ∧ (r.1.sum < (pm o q.1).sum → q.2 = r.2 + 1)
    rw [mix_turn hp S (R.len q hq) hi]
    rcases R.step q hq _ (o_at hp hi).2 with ⟨e1, e2⟩ | ⟨r, hr, e, h1, h2⟩
    · left
      refine ⟨?_, ?_⟩
      · rw [e1, pm_unit hp hi]
      · rw [e2, pm_neg hp]
    · right
      refine ⟨(pm o r.1, r.2), List.mem_map.mpr ⟨r, hr, rfl⟩, by rw [e], ?_, ?_⟩
      · show (pm o q.1).sum < (pm o r.1).sum → r.2 = q.2 + 1
        rw [pm_sum hp (R.len q hq), pm_sum hp (R.len r hr)]
        exact h1
      · show (pm o r.1).sum < (pm o q.1).sum → q.2 = r.2 + 1
        rw [pm_sum hp (R.len q hq), pm_sum hp (R.len r hr)]
        exact h2
  down := fun p hz e => by
    obtain ⟨q, hq, rfl⟩ := List.mem_map.mp hz
    obtain ⟨i, hi, r, hr, e1, e2⟩ := R.down q hq e
    obtain ⟨k, hk, rfl⟩ := o_surj hp hi
    rw [mix_len hp]
    exact ⟨k, hk, (pm o r.1, r.2), List.mem_map.mpr ⟨r, hr, rfl⟩, by show pm o r.1 = turn (mixedM M o) (pm o q.1) k; rw [mix_turn hp S (R.len q hq) hk, e1], e2⟩
theorem mix_good (G : Good M) : Good (mixedM M o) := by
  obtain ⟨u, W⟩ := G.wit
  obtain ⟨RD, R⟩ := G.roots
  exact ⟨mix_shape hp G.shape, ⟨_, mix_wit hp G.shape W⟩, ⟨_, mix_roots hp G.shape R⟩⟩
end
/-! ### all that is drawn -/
def Drawn (M : Mat) : Prop := M ∈ can0 ∨ M ∈ can1 ∨ M ∈ can2
theorem Drawn.good {M : Mat} (h : Drawn M) : Good M := by
  rcases h with h | h | h
  · exact goodB_ok (List.all_eq_true.mp can0_good M h)
  · exact goodB_ok (List.all_eq_true.mp can1_good M h)
  · exact goodB_ok (List.all_eq_true.mp can2_good M h)
/-- behind i more draws -/
def DrawnAt : Nat → Mat → Prop
  | 0, M => M ∈ can0
  | 1, M => M ∈ can0 ∨ M ∈ can1
  | _ + 2, M => Drawn M
theorem DrawnAt.stay {i : Nat} {M : Mat} (h : DrawnAt i M) : DrawnAt (i + 1) M := by
  cases i with
  | zero => exact .inl h
  | succ i => cases i with
    | zero => exact h.elim .inl fun z => .inr (.inl z)
    | succ i => exact h
theorem DrawnAt.more {i : Nat} {M : Mat} (h : DrawnAt i M) (hi : i < 2) (hl : M.length < 5) {t : Nat × Nat} (ht : t ∈ namesOf (5 - M.length)) : DrawnAt (i + 1) (besideM M (named t.1 t.2)) := by
  have m : besideM M (named t.1 t.2) ∈ extM M := by
    unfold extM
    rw [if_pos hl]
    exact List.mem_map.mpr ⟨t, ht, rfl⟩
  cases i with
  | zero => exact .inr (List.mem_flatMap.mpr ⟨M, h, m⟩)
  | succ i => cases i with
    | zero => exact h.elim (fun z => .inr (.inl (List.mem_flatMap.mpr ⟨M, z, m⟩))) fun z => .inr (.inr (List.mem_flatMap.mpr ⟨M, z, m⟩))
    | succ i => omega
theorem DrawnAt.drawn : ∀ {i : Nat} {M : Mat}, DrawnAt i M → Drawn M
  | 0, _, h => .inl h
  | 1, _, h => h.elim .inl fun z => .inr (.inl z)
  | _ + 2, _, h => h
end K31

set_option autoImplicit false
set_option linter.all false
set_option maxRecDepth 100000
namespace K31
/-! ### loads of a wing -/
def wgt (P : Mat) (w : List Nat) (load : Vec) (k : Nat) : Int := dot (w.map fun m => (rowOf P k).getD m 0) load
def stepW (P : Mat) (w : List Nat) (load : Vec) : Vec := List.zipWith (fun k own => max own ((wgt P w load k + 1) / 2)) w load
def ones (n : Nat) : Vec := List.replicate n 1
structure WingOk (P : Mat) (w : List Nat) : Prop where
  ne : w ≠ []
  nd : w.Nodup
  lt : ∀ k ∈ w, k < P.length
structure LoadOk (w : List Nat) (u load : Vec) : Prop where
  len : load.length = w.length
  bnd : ∀ (j k : Nat) (x : Int), w[j]? = some k → load[j]? = some x → 1 ≤ x ∧ x ≤ u.getD k 0
theorem sum_sub (h : Nat → Int) : ∀ {w l : List Nat}, w.Nodup → (∀ x ∈ w, x ∈ l) → (∀ x ∈ l, 0 ≤ h x) → (w.map h).sum ≤ (l.map h).sum
  | [], l, _, _, hn => by
    have : ∀ l : List Nat, (∀ x ∈ l, 0 ≤ h x) → 0 ≤ (l.map h).sum := by
      intro l
      induction l with
      | nil => intro _; simp
      | cons a l ih =>
        intro hz
        rw [List.map_cons, List.sum_cons]
        have h1 := hz a (List.mem_cons_self ..)
        have h2 := ih fun x hx => hz x (List.mem_cons_of_mem _ hx)
        omega
    simpa using this l hn
  | a :: w, l, nd, hs, hn => by
    obtain ⟨h1, h2⟩ := List.nodup_cons.mp nd
    have ha := hs a (List.mem_cons_self ..)
    have ih := sum_sub h (w := w) (l := l.erase a) h2 (fun x hx => (List.mem_erase_of_ne (by rintro rfl; exact h1 hx)).mpr (hs x (List.mem_cons_of_mem _ hx))) fun x hx => hn x (List.mem_of_mem_erase hx)
    have e := perm_sumI ((List.perm_cons_erase ha).map h)
    rw [List.map_cons, List.sum_cons] at e
    rw [List.map_cons, List.sum_cons]
    omega
theorem dot_le : ∀ (a b c : Vec), (∀ x ∈ a, 0 ≤ x) → b.length = c.length → (∀ (j : Nat) x y, b[j]? = some x → c[j]? = some y → x ≤ y) → dot a b ≤ dot a c
  | [], b, c, _, _, _ => by simp [dot]
  | x :: a, [], [], _, _, _ => by simp [dot]
  | x :: a, [], _ :: _, _, h, _ => by simp at h
  | x :: a, _ :: _, [], _, h, _ => by simp at h
  | x :: a, y :: b, z :: c, ha, hl, h => by
    have ih := dot_le a b c (fun t ht => ha t (List.mem_cons_of_mem _ ht)) (by simpa using hl) fun j x' y' e1 e2 => h (j + 1) x' y' (by simpa using e1) (by simpa using e2)
    show (x * y :: List.zipWith (· * ·) a b).sum ≤ (x * z :: List.zipWith (· * ·) a c).sum
    rw [List.sum_cons, List.sum_cons]
    have h0 : x * y ≤ x * z := Int.mul_le_mul_of_nonneg_left (h 0 y z rfl rfl) (ha x (List.mem_cons_self ..))
    have e : (List.zipWith (· * ·) a b).sum ≤ (List.zipWith (· * ·) a c).sum := ih
    omega
section
variable {P : Mat} {w : List Nat} {u load : Vec}
theorem row_nn (S : Shape P) {k m : Nat} (hk : k < P.length) (hm : m < P.length) : 0 ≤ (rowOf P k).getD m 0 ∧ (rowOf P k).getD m 0 ≤ 4 := by
  have hl := S.row_length hk
  rw [List.getD_eq_getElem?_getD, List.getElem?_eq_getElem (by omega)]
  exact S.ent _ (rowOf_mem hk) _ (List.getElem_mem _)
theorem wgt_lt (S : Shape P) (W : Wit P u) (O : WingOk P w) (L : LoadOk w u load) {k : Nat} (hk : k ∈ w) : wgt P w load k < 2 * u.getD k 0 := by
  have hkn := O.lt k hk
  have h1 : wgt P w load k ≤ dot (w.map fun m => (rowOf P k).getD m 0) (w.map fun m => u.getD m 0) := by
    refine dot_le _ _ _ (fun x hx => ?_) (by rw [L.len, List.length_map]) fun j x y e1 e2 => ?_
    · obtain ⟨m, hm, rfl⟩ := List.mem_map.mp hx
      exact (row_nn S hkn (O.lt m hm)).1
    · rw [List.getElem?_map] at e2
      obtain ⟨m, em, rfl⟩ := Option.map_eq_some_iff.mp e2
      exact (L.bnd j m x em e1).2
  have h2 : dot (w.map fun m => (rowOf P k).getD m 0) (w.map fun m => u.getD m 0) ≤ dot (rowOf P k) u := by
    have e : dot (rowOf P k) u = ((List.range P.length).map fun m => (rowOf P k).getD m 0 * u.getD m 0).sum := by
      rw [← dot_map, ← self_range (S.row_length hkn), ← self_range W.len]
    rw [e, dot_map]
    refine sum_sub _ O.nd (fun x hx => List.mem_range.mpr (O.lt x hx)) fun x hx => ?_
    have hx' := List.mem_range.mp hx
    refine Int.mul_nonneg (row_nn S hkn hx').1 ?_
    have hl := W.len
    rw [List.getD_eq_getElem?_getD, List.getElem?_eq_getElem (by omega)]
    have := (W.bnd _ (List.getElem_mem (by omega : x < u.length))).1
    show 0 ≤ u[x]
    omega
  have h3 := W.less k hkn
  omega
theorem stepW_len (h : load.length = w.length) : (stepW P w load).length = w.length := by
  unfold stepW
  rw [List.length_zipWith, h, Nat.min_self]
theorem stepW_at {j k : Nat} {x : Int} (h1 : w[j]? = some k) (h2 : load[j]? = some x) : (stepW P w load)[j]? = some (max x ((wgt P w load k + 1) / 2)) := by
  unfold stepW
  rw [List.getElem?_zipWith, h1, h2]
theorem LoadOk.step (S : Shape P) (W : Wit P u) (O : WingOk P w) (L : LoadOk w u load) : LoadOk w u (stepW P w load) := by
  refine ⟨stepW_len L.len, fun j k x e1 e2 => ?_⟩
  have hj : j < load.length := by rw [L.len]; exact (List.getElem?_eq_some_iff.mp e1).1
  have e3 := stepW_at (P := P) e1 (List.getElem?_eq_getElem hj)
  rw [e2] at e3
  have e4 := Option.some.inj e3
  obtain ⟨h1, h2⟩ := L.bnd j k _ e1 (List.getElem?_eq_getElem hj)
  have h3 := wgt_lt S W O L (List.mem_of_getElem? e1)
  subst e4
  omega
theorem LoadOk.start (W : Wit P u) (O : WingOk P w) : LoadOk w u (ones w.length) := by
  refine ⟨by simp [ones], fun j k x e1 e2 => ?_⟩
  have hx : x = 1 := by
    unfold ones at e2
    rw [List.getElem?_replicate] at e2
    split at e2
    · exact (Option.some.inj e2).symm
    · cases e2
  have hk := O.lt k (List.mem_of_getElem? e1)
  have hl := W.len
  rw [List.getD_eq_getElem?_getD, List.getElem?_eq_getElem (by omega)]
  have := (W.bnd _ (List.getElem_mem (by omega : k < u.length))).1
  show 1 ≤ x ∧ x ≤ u[k]
  omega
theorem sum_lt : ∀ {a b : Vec}, a.length = b.length → (∀ (j : Nat) x y, a[j]? = some x → b[j]? = some y → x ≤ y) → a.sum ≤ b.sum ∧ (a ≠ b → a.sum < b.sum)
  | [], [], _, _ => ⟨Int.le_refl _, fun h => absurd rfl h⟩
  | [], _ :: _, h, _ => by simp at h
  | _ :: _, [], h, _ => by simp at h
  | x :: a, y :: b, hl, h => by
    obtain ⟨h1, h2⟩ := sum_lt (a := a) (b := b) (by simpa using hl) fun j x' y' e1 e2 => h (j + 1) x' y' (by simpa using e1) (by simpa using e2)
    have h0 := h 0 x y rfl rfl
    rw [List.sum_cons, List.sum_cons]
    refine ⟨by omega, fun hne => ?_⟩
    by_cases e : x = y
    · have : a ≠ b := fun z => hne (by rw [e, z])
      have := h2 this
      omega
    · omega
theorem stepW_grows (h : load.length = w.length) : stepW P w load ≠ load → load.sum < (stepW P w load).sum := by
  intro hne
  refine (sum_lt (by rw [stepW_len h, h]) fun j x y e1 e2 => ?_).2 (Ne.symm hne)
  have hj : j < w.length := by rw [← h]; exact (List.getElem?_eq_some_iff.mp e1).1
  have e3 := stepW_at (P := P) (List.getElem?_eq_getElem hj) e1
  rw [e2] at e3
  have e4 := Option.some.inj e3
  omega
theorem LoadOk.sum_le (L : LoadOk w u load) : load.sum ≤ (w.map fun k => u.getD k 0).sum := by
  refine (sum_lt (by rw [L.len, List.length_map]) fun j x y e1 e2 => ?_).1
  rw [List.getElem?_map] at e2
  obtain ⟨k, ek, rfl⟩ := Option.map_eq_some_iff.mp e2
  exact (L.bnd j k x ek e1).2
theorem LoadOk.le400 (W : Wit P u) (O : WingOk P w) (L : LoadOk w u load) : ∀ x ∈ load, 1 ≤ x ∧ x ≤ 400 := by
  intro x hx
  obtain ⟨j, hj, rfl⟩ := List.mem_iff_getElem.mp hx
  have hjw : j < w.length := by rw [← L.len]; exact hj
  obtain ⟨h1, h2⟩ := L.bnd j _ _ (List.getElem?_eq_getElem hjw) (List.getElem?_eq_getElem hj)
  have hk := O.lt _ (List.getElem_mem hjw)
  have hl := W.len
  rw [List.getD_eq_getElem?_getD, List.getElem?_eq_getElem (by omega)] at h2
  have := (W.bnd _ (List.getElem_mem (by omega : w[j] < u.length))).2
  have h3 : load[j] ≤ u[w[j]] := h2
  omega
/-- the greatest of some fractions -/
theorem most (f g : Nat → Int) : ∀ {l : List Nat}, l ≠ [] → (∀ k ∈ l, 0 < g k) → ∃ k ∈ l, ∀ j ∈ l, f j * g k ≤ f k * g j
  | [], h, _ => absurd rfl h
  | [a], _, _ => ⟨a, by simp, fun j hj => by simp at hj; subst hj; exact Int.le_refl _⟩
  | a :: b :: l, _, hp => by
    obtain ⟨k, hk, ih⟩ := most f g (l := b :: l) (by simp) fun k hk => hp k (List.mem_cons_of_mem _ hk)
    have gk := hp k (List.mem_cons_of_mem _ hk)
    have ga := hp a (List.mem_cons_self ..)
    by_cases h : f a * g k ≤ f k * g a
    · refine ⟨k, List.mem_cons_of_mem _ hk, fun j hj => ?_⟩
      rcases List.mem_cons.mp hj with rfl | hj
      · exact h
      · exact ih j hj
    · refine ⟨a, List.mem_cons_self .., fun j hj => ?_⟩
      rcases List.mem_cons.mp hj with rfl | hj
      · exact Int.le_refl _
      · have gj := hp j (List.mem_cons_of_mem _ hj)
        have h1 := ih j hj
        have h2 : f k * g a ≤ f a * g k := by omega
        -- f j * g k * g a <= f k * g j * g a <= f a * g k * g j
        have m1 : (f j * g k) * g a ≤ (f k * g j) * g a := Int.mul_le_mul_of_nonneg_right h1 (by omega)
        have m2 : (f k * g a) * g j ≤ (f a * g k) * g j := Int.mul_le_mul_of_nonneg_right h2 (by omega)
        have e1 : (f j * g k) * g a = (f j * g a) * g k := by rw [Int.mul_assoc, Int.mul_comm (g k), ← Int.mul_assoc]
        have e2 : (f k * g j) * g a = (f k * g a) * g j := by rw [Int.mul_assoc, Int.mul_comm (g j), ← Int.mul_assoc]
        have e3 : (f a * g k) * g j = (f a * g j) * g k := by rw [Int.mul_assoc, Int.mul_comm (g k), ← Int.mul_assoc]
        have m3 : (f j * g a) * g k ≤ (f a * g j) * g k := by omega
        exact Int.le_of_mul_le_mul_right m3 gk
/-- no load of an ending wing is flat -/
theorem not_flat (S : Shape P) (W : Wit P u) (O : WingOk P w) (f : Nat → Int) (hf : ∀ k ∈ w, 0 < f k) : ¬ ∀ k ∈ w, 2 * f k = wgt P w (w.map f) k := by
  intro all
  have gp : ∀ k ∈ w, 0 < u.getD k 0 := fun k hk => by
    have := O.lt k hk
    have hl := W.len
    rw [List.getD_eq_getElem?_getD, List.getElem?_eq_getElem (by omega)]
    have := (W.bnd _ (List.getElem_mem (by omega : k < u.length))).1
    show 0 < u[k]
    omega
  obtain ⟨k, hk, hmax⟩ := most f (fun k => u.getD k 0) O.ne gp
  have hkn := O.lt k hk
  have e := all k hk
  -- u_k * (2 f_k) = sum of u_k * P_kj f_j <= f_k * sum of P_kj u_j < f_k * 2 u_k
  have h1 : u.getD k 0 * wgt P w (w.map f) k ≤ f k * dot (w.map fun m => (rowOf P k).getD m 0) (w.map fun m => u.getD m 0) := by
    unfold wgt
    rw [dot_map, dot_map]
    have gen : ∀ l : List Nat, (∀ j ∈ l, j ∈ w) → u.getD k 0 * (l.map fun j => (rowOf P k).getD j 0 * f j).sum ≤ f k * (l.map fun j => (rowOf P k).getD j 0 * u.getD j 0).sum := by
      intro l
      induction l with
      | nil => intro _; simp
      | cons j l ih =>
        intro hl
        have hj := hl j (List.mem_cons_self ..)
        have i2 := ih fun x hx => hl x (List.mem_cons_of_mem _ hx)
        rw [List.map_cons, List.map_cons, List.sum_cons, List.sum_cons, Int.mul_add, Int.mul_add]
        have q : (rowOf P k).getD j 0 * (f j * u.getD k 0) ≤ (rowOf P k).getD j 0 * (f k * u.getD j 0) := Int.mul_le_mul_of_nonneg_left (hmax j hj) (row_nn S hkn (O.lt j hj)).1
        have q1 : u.getD k 0 * ((rowOf P k).getD j 0 * f j) = (rowOf P k).getD j 0 * (f j * u.getD k 0) := by rw [Int.mul_comm, Int.mul_assoc]
        have q2 : f k * ((rowOf P k).getD j 0 * u.getD j 0) = (rowOf P k).getD j 0 * (f k * u.getD j 0) := by rw [← Int.mul_assoc, Int.mul_comm (f k), Int.mul_assoc]
        omega
    exact gen w fun _ h => h
  have L : LoadOk w u (w.map fun m => u.getD m 0) := ⟨by simp, fun j m x e1 e2 => by
    rw [List.getElem?_map, e1] at e2
    have e3 : u.getD m 0 = x := Option.some.inj e2
    have := gp m (List.mem_of_getElem? e1)
    subst e3
    omega⟩
  have h2 := wgt_lt S W O L hk
  have h3 : dot (w.map fun m => (rowOf P k).getD m 0) (w.map fun m => u.getD m 0) = wgt P w (w.map fun m => u.getD m 0) k := rfl
  rw [h3] at h1
  have fk := hf k hk
  have uk := gp k hk
  have h4 : f k * wgt P w (w.map fun m => u.getD m 0) k < f k * (2 * u.getD k 0) := Int.mul_lt_mul_of_pos_left h2 fk
  rw [← e] at h1
  have e5 : u.getD k 0 * (2 * f k) = f k * (2 * u.getD k 0) := by
    rw [Int.mul_left_comm, Int.mul_comm (u.getD k 0), Int.mul_left_comm]
  omega
end
end K31

set_option Elab.async false
set_option linter.all false
set_option maxRecDepth 100000
set_option maxHeartbeats 0
namespace K31
open PySem PySem.Spec PyProof.Rows L2
def top (i : Nat) : Stmt := PySem.Challenge.pw_kaleidorooms_k31_whole_ways.main.body.getD i (.Pass ⟨0, 0, 0, 0⟩)

abbrev s_is_from : Stmt := top 11
abbrev s_are_pushes : Stmt := top 12
abbrev s_need_hall : Stmt := top 14
abbrev s_need_lamp : Stmt := top 15
abbrev s_neighbours_of : Stmt := top 16
abbrev s_joined_to : Stmt := top 17
abbrev s_wings_of : Stmt := top 18
abbrev s_weight : Stmt := top 24
abbrev s_least_over : Stmt := top 25
abbrev s_word_of : Stmt := top 26
abbrev s_kind_of : Stmt := top 27
abbrev s_are_numbers : Stmt := top 29
abbrev s_need_ending : Stmt := top 31
abbrev s_unit_of : Stmt := top 32
abbrev s_turned : Stmt := top 33
abbrev s_all_up : Stmt := top 34
abbrev s_height_of : Stmt := top 35
abbrev s_turned_up : Stmt := top 36
abbrev s_is_any_arrow : Stmt := top 37
abbrev s_need_arrow : Stmt := top 38
abbrev s_arrows : Stmt := top 39
abbrev s_turned_arrow : Stmt := top 40
abbrev s_way_of : Stmt := top 41
abbrev s_way_to_unit : Stmt := top 42
abbrev s_shows_way : Stmt := top 43
abbrev s_law_taken : Stmt := top 45
abbrev s_law_pick : Stmt := top 46
abbrev s_law_named : Stmt := top 47
abbrev s_law_names : Stmt := top 48
abbrev s_law_mixed : Stmt := top 49
abbrev s_law_beside : Stmt := top 50
abbrev s_law_ending : Stmt := top 51
abbrev s_law_turn : Stmt := top 52
abbrev s_law_ways : Stmt := top 53
abbrev s_law : Stmt := top 54
abbrev s_Hall_init : Stmt := inClass (top 13) 0
abbrev s_Hall_len : Stmt := inClass (top 13) 2
def d_is_from : He.DefD := ⟨("is_from", none), "is_from", "is_from", defArgs s_is_from, defBody s_is_from, defScope s_is_from, [], []⟩
def d_are_pushes : He.DefD := ⟨("are_pushes", none), "are_pushes", "are_pushes", defArgs s_are_pushes, defBody s_are_pushes, defScope s_are_pushes, [], []⟩
def d_need_hall : He.DefD := ⟨("need_hall", none), "need_hall", "need_hall", defArgs s_need_hall, defBody s_need_hall, defScope s_need_hall, [], []⟩
def d_need_lamp : He.DefD := ⟨("need_lamp", none), "need_lamp", "need_lamp", defArgs s_need_lamp, defBody s_need_lamp, defScope s_need_lamp, [], []⟩
def d_neighbours_of : He.DefD := ⟨("neighbours_of", none), "neighbours_of", "neighbours_of", defArgs s_neighbours_of, defBody s_neighbours_of, defScope s_neighbours_of, [], []⟩
def d_joined_to : He.DefD := ⟨("joined_to", none), "joined_to", "joined_to", defArgs s_joined_to, defBody s_joined_to, defScope s_joined_to, [], []⟩
def d_wings_of : He.DefD := ⟨("wings_of", none), "wings_of", "wings_of", defArgs s_wings_of, defBody s_wings_of, defScope s_wings_of, [], []⟩
def d_weight : He.DefD := ⟨("weight", none), "weight", "weight", defArgs s_weight, defBody s_weight, defScope s_weight, [], []⟩
def d_least_over : He.DefD := ⟨("least_over", none), "least_over", "least_over", defArgs s_least_over, defBody s_least_over, defScope s_least_over, [], []⟩
def d_word_of : He.DefD := ⟨("word_of", none), "word_of", "word_of", defArgs s_word_of, defBody s_word_of, defScope s_word_of, [], []⟩
def d_kind_of : He.DefD := ⟨("kind_of", none), "kind_of", "kind_of", defArgs s_kind_of, defBody s_kind_of, defScope s_kind_of, [], []⟩
def d_are_numbers : He.DefD := ⟨("are_numbers", none), "are_numbers", "are_numbers", defArgs s_are_numbers, defBody s_are_numbers, defScope s_are_numbers, [], []⟩
def d_need_ending : He.DefD := ⟨("need_ending", none), "need_ending", "need_ending", defArgs s_need_ending, defBody s_need_ending, defScope s_need_ending, [], []⟩
def d_unit_of : He.DefD := ⟨("unit_of", none), "unit_of", "unit_of", defArgs s_unit_of, defBody s_unit_of, defScope s_unit_of, [], []⟩
def d_turned : He.DefD := ⟨("turned", none), "turned", "turned", defArgs s_turned, defBody s_turned, defScope s_turned, [], []⟩
def d_all_up : He.DefD := ⟨("all_up", none), "all_up", "all_up", defArgs s_all_up, defBody s_all_up, defScope s_all_up, [], []⟩
def d_height_of : He.DefD := ⟨("height_of", none), "height_of", "height_of", defArgs s_height_of, defBody s_height_of, defScope s_height_of, [], []⟩
def d_turned_up : He.DefD := ⟨("turned_up", none), "turned_up", "turned_up", defArgs s_turned_up, defBody s_turned_up, defScope s_turned_up, [], []⟩
def d_is_any_arrow : He.DefD := ⟨("is_any_arrow", none), "is_any_arrow", "is_any_arrow", defArgs s_is_any_arrow, defBody s_is_any_arrow, defScope s_is_any_arrow, [], []⟩
def d_need_arrow : He.DefD := ⟨("need_arrow", none), "need_arrow", "need_arrow", defArgs s_need_arrow, defBody s_need_arrow, defScope s_need_arrow, [], []⟩
def d_arrows : He.DefD := ⟨("arrows", none), "arrows", "arrows", defArgs s_arrows, defBody s_arrows, defScope s_arrows, [], []⟩
def d_turned_arrow : He.DefD := ⟨("turned_arrow", none), "turned_arrow", "turned_arrow", defArgs s_turned_arrow, defBody s_turned_arrow, defScope s_turned_arrow, [], []⟩
def d_way_of : He.DefD := ⟨("way_of", none), "way_of", "way_of", defArgs s_way_of, defBody s_way_of, defScope s_way_of, [], []⟩
def d_way_to_unit : He.DefD := ⟨("way_to_unit", none), "way_to_unit", "way_to_unit", defArgs s_way_to_unit, defBody s_way_to_unit, defScope s_way_to_unit, [], []⟩
def d_shows_way : He.DefD := ⟨("shows_way", none), "shows_way", "shows_way", defArgs s_shows_way, defBody s_shows_way, defScope s_shows_way, [], []⟩
def d_law_taken : He.DefD := ⟨("_law_taken", none), "_law_taken", "_law_taken", defArgs s_law_taken, defBody s_law_taken, defScope s_law_taken, [], []⟩
def d_law_pick : He.DefD := ⟨("_law_pick", none), "_law_pick", "_law_pick", defArgs s_law_pick, defBody s_law_pick, defScope s_law_pick, [], []⟩
def d_law_named : He.DefD := ⟨("_law_named", none), "_law_named", "_law_named", defArgs s_law_named, defBody s_law_named, defScope s_law_named, [], []⟩
def d_law_names : He.DefD := ⟨("_law_names", none), "_law_names", "_law_names", defArgs s_law_names, defBody s_law_names, defScope s_law_names, [], []⟩
def d_law_mixed : He.DefD := ⟨("_law_mixed", none), "_law_mixed", "_law_mixed", defArgs s_law_mixed, defBody s_law_mixed, defScope s_law_mixed, [], []⟩
def d_law_beside : He.DefD := ⟨("_law_beside", none), "_law_beside", "_law_beside", defArgs s_law_beside, defBody s_law_beside, defScope s_law_beside, [], []⟩
def d_law_ending : He.DefD := ⟨("_law_ending", none), "_law_ending", "_law_ending", defArgs s_law_ending, defBody s_law_ending, defScope s_law_ending, [], []⟩
def d_law_turn : He.DefD := ⟨("_law_turn", none), "_law_turn", "_law_turn", defArgs s_law_turn, defBody s_law_turn, defScope s_law_turn, [], []⟩
def d_law_ways : He.DefD := ⟨("_law_ways", none), "_law_ways", "_law_ways", defArgs s_law_ways, defBody s_law_ways, defScope s_law_ways, [], []⟩
def d_law : He.DefD := ⟨("law", none), "law", "law", defArgs s_law, defBody s_law, defScope s_law, [], []⟩
def d_Hall_init : He.DefD := ⟨("Hall", some "__init__"), "__init__", "Hall.__init__", defArgs s_Hall_init, defBody s_Hall_init, defScope s_Hall_init, [], []⟩
def d_Hall_len : He.DefD := ⟨("Hall", some "__len__"), "__len__", "Hall.__len__", defArgs s_Hall_len, defBody s_Hall_len, defScope s_Hall_len, [], []⟩
def fn : List He.DefD := [d_is_from, d_are_pushes, d_need_hall, d_need_lamp, d_neighbours_of, d_joined_to, d_wings_of, d_weight, d_least_over, d_word_of, d_kind_of, d_are_numbers, d_need_ending, d_unit_of, d_turned, d_all_up, d_height_of, d_turned_up, d_is_any_arrow, d_need_arrow, d_arrows, d_turned_arrow, d_way_of, d_way_to_unit, d_shows_way, d_law_taken, d_law_pick, d_law_named, d_law_names, d_law_mixed, d_law_beside, d_law_ending, d_law_turn, d_law_ways, d_law, d_Hall_init, d_Hall_len]
def fa1 : List He.Fa := [.glo "is_from", .glo "are_pushes", .glo "need_hall", .glo "need_lamp", .glo "neighbours_of", .glo "joined_to", .glo "wings_of", .glo "weight", .glo "least_over", .glo "word_of", .glo "kind_of", .glo "are_numbers", .glo "need_ending", .glo "unit_of", .glo "turned", .glo "all_up", .glo "height_of", .glo "turned_up", .glo "is_any_arrow", .glo "need_arrow", .glo "arrows", .glo "turned_arrow", .glo "way_of", .glo "way_to_unit", .glo "shows_way", .glo "_law_taken", .glo "_law_pick", .glo "_law_named", .glo "_law_names", .glo "_law_mixed", .glo "_law_beside", .glo "_law_ending", .glo "_law_turn", .glo "_law_ways", .glo "law", .glo "Hall", .cls "Hall", .noat "Hall" "told", .mkr "Hall"]
def fa2 : List He.Fa := [.meth "Hall" "__len__", .int "MOST_LAMPS" 8, .int "MOST_PUSH" 4, .int "MOST_LOAD" 400, .str "ENDING" "ending", .str "FLAT" "flat", .str "WILD" "wild", .free "len", .free "isinstance", .free "all", .free "tuple", .free "sorted", .free "sum", .free "zip", .free "enumerate", .free "range", .free "max", .free "min", .free "list", .free "dict", .free "int", .free "bool"]
def fa : List He.Fa := fa1 ++ fa2
def nm1 : List Str := [Str.ofString "HallError", Str.ofString "BadPushes", Str.ofString "Lopsided", Str.ofString "BadHall", Str.ofString "BadLamp", Str.ofString "NotEnding", Str.ofString "BadArrow", Str.ofString "Hall", Str.ofString "MOST_LAMPS", Str.ofString "MOST_PUSH", Str.ofString "ENDING", Str.ofString "FLAT", Str.ofString "WILD", Str.ofString "MOST_LOAD", Str.ofString "is_from", Str.ofString "are_pushes", Str.ofString "need_hall", Str.ofString "need_lamp", Str.ofString "neighbours_of", Str.ofString "joined_to", Str.ofString "wings_of", Str.ofString "weight", Str.ofString "least_over", Str.ofString "word_of"]
def nm2 : List Str := [Str.ofString "kind_of", Str.ofString "are_numbers", Str.ofString "need_ending", Str.ofString "unit_of", Str.ofString "turned", Str.ofString "all_up", Str.ofString "height_of", Str.ofString "turned_up", Str.ofString "is_any_arrow", Str.ofString "need_arrow", Str.ofString "arrows", Str.ofString "turned_arrow", Str.ofString "way_of", Str.ofString "way_to_unit", Str.ofString "shows_way", Str.ofString "_law_taken", Str.ofString "_law_pick", Str.ofString "_law_named", Str.ofString "_law_names", Str.ofString "_law_mixed", Str.ofString "_law_beside", Str.ofString "_law_ending", Str.ofString "_law_turn", Str.ofString "_law_ways"]
def nms : List Str := nm1 ++ nm2

/-- what else of the class Hall: isinstance, len -/
def hallB (K : PySem.W.Frag) : Bool :=
  He.eqO (PySem.W.findIn K (.ref (He.ga K "Hall")) "__class__") (some (some (.builtin "object.__class__"))) &&
  (He.eqO (PySem.W.specialIn K (.builtin "object.__class__") "__get__") (some (some (.builtin "getset_descriptor.__get__"))) &&
  (decide (PySem.W.takesIn K (.builtin "object.__class__") = some true) &&
  (decide (PySem.W.mroIn K (He.ga K "Hall") (.type "object") = some true) &&
  decide (PySem.W.kitOne K (.ref (He.ga K "Hall")) (.ref (He.ga K "Hall")) = some true))))
abbrev AlK : Type := He.AlD × Bool
def obsK (n : Nat) (g : Addr → Option Obj) : AlK := (He.obsD fa fn (He.frG g (He.asD g n)), hallB (He.frG g (He.asD g n)))
def valK : AlK := (He.valD fn, true)
structure SaysK (K : PySem.W.Frag) : Prop where
  d : He.SaysD fa fn K
  hall : hallB K = true
def hookK (n : Nat) : PySem.W.Hook where
  α := AlK
  obs := fun s => obsK n s.heap.get?
  val := fun _ => valK
  says := fun _ h => ∃ K : PySem.W.Frag, K.In h ∧ SaysK K
  of := fun _ s e => ⟨_, He.frG_in, (congrArg (fun z : AlK => z.1) e : He.obsD fa fn _ = He.valD fn), (congrArg (fun z : AlK => z.2) e : hallB _ = true)⟩
  keeps := fun _ _ _ ⟨K, hK, c⟩ k => ⟨K, PySem.W.Frag.In.keeps hK k, c⟩
theorem obsK_eq {n : Nat} {g : Addr → Option Obj} {s : Shared} (h : ∀ a, g a = s.heap.get? a) : obsK n g = (hookK n).obs s := by
  have e : g = s.heap.get? := funext h
  rw [e] <;> rfl
abbrev R : PySem.W.OpenRow := PySem.W.OpenLaw.row PySem.Challenge.rw_kaleidorooms_k31_whole_ways
def ob (s : PySem.W.SharedT) : AlK := obsK 5 (HandSHeadRun.getT s)
theorem ob_eq (s : PySem.W.SharedT) : ob s = (hookK 5).obs s.abs := obsK_eq (HandSHeadRun.getT_eq s)
theorem run (w : World) : HandSHeadRun.RunEq R (PySem.W.view R.prog [54]) (hookK 5) ob 4000 nms w := by
  intro os
  kernel_rfl
end K31

set_option Elab.async false
set_option linter.all false
set_option maxRecDepth 100000
set_option maxHeartbeats 4000000
namespace K31
open PySem PySem.Spec PyProof.Rows L2
/-! ### rules of my own, 1: built-ins over tuples; len of an object with a __len__ -/
section
variable {X : Cx}
/-- len(o), o of a class with its own __len__ -/
theorem call_lenO {CX : CXT} {k : Nat} {C f : Addr} {fd : FuncData} {ps : List Str} {sp : Sp} {E : XK} (F : FnOk X.prog X.w X.K X.mg X.base CX k f fd ps sp) (hr : Room (k + 1) X.A) (M : Meth X.K C "__len__" f) (hb : Binds X.K fd ps []) (hx : Passes CX X E) :
    CallR X (.builtin "len") (fun xs H Q => ∃ a dx fs, xs = [.ref a] ∧ H a = some (.ins C dx fs) ∧ sp [.ref a] H (fun v H' => ∃ n : Int, v = .int n ∧ 0 ≤ n ∧ n < 2 ^ 63 ∧ Q (.int n) H') E) := by
  intro pins s σ H xs us Q I r h
  obtain ⟨a, dx, fs, rfl, ha, q⟩ := h
  rw [Vals.ref1 r]
  obtain ⟨mA, O, _⟩ := ins_get I.hok ha
  obtain ⟨od, J, _⟩ := O.look
  obtain ⟨m, hF⟩ := I.fr
  refine PySem.W.len_K hF I.ok.mod.kin J M.at_ M.fn (wpAny_call ?_)
  have rv : Vals [V.ref a] [Value.ref a] := .cons rfl .nil
  have hl := F.len _ _ _ _ q
  have hbn : BindsTo s fd ⟨[.ref a], []⟩ (ps.zip [.ref a]) := by
    have z := hb s [.ref a] I.kIn (by simpa using hl)
    simpa using z
  refine codeAny_mono (F.run X.A.in1 X.stack s H ⟨[.ref a], []⟩ [.ref a] [V.ref a] _ E hr.in1 I.env0.in1 hbn rv q) fun res s' hq => ?_
  cases res with
  | error e => exact hx pins σ H s e s' I hq
  | ok fl =>
    cases fl with
    | ret u =>
      obtain ⟨v, H', I3, rv3, n, ev, h0, h1, q3⟩ := I.after hq
      subst ev
      obtain ⟨t, rfl⟩ := rv3
      exact ⟨⟨h0, h1⟩, .int n, H', I3.tok _, ⟨_, rfl⟩, q3⟩
    | next => exact False.elim hq
    | brk => exact False.elim hq
    | cont => exact False.elim hq

/-- sum(t), t a tuple of ints -/
theorem cr_sumT (hc : X.calm = true) : CallR X (.builtin "sum") (fun vs H Q => ∃ (a : Addr) (ns : List Int), vs = [V.ref a] ∧ SqT X.K H a (ns.map V.int) ∧ Q (.int ns.sum) H) := by
  intro pins s σ H vs us Q I r h
  obtain ⟨a, ns, rfl, hs, q⟩ := h
  obtain ⟨its, rv, hl, _⟩ := I.tuple hs
  rw [Vals.ref1 r]
  obtain ⟨xs, e⟩ := rv.ints.allInts.items
  have hn : numsOf (intItems xs).toList = ns := by rw [← e]; exact rv.ints.numsOf
  rw [nums_intItems] at hn
  have hT : s.heap.IsTuple a (intItems xs) := by rw [← e]; exact hl
  have hlt : a < s.heap.objs.size := by obtain ⟨_, z, _⟩ := hT; exact Heap.lt_size z
  refine call_sum_walkG (wpAny_pyIter_tuple hT ?_)
  refine ⟨_, [s.heap.objs.size, a], [s.heap.objs.size], _, _, _, numAt xs, rfl, Walks.tuple (A := X.A.in1) (I.ok.hd hc) _ a (Nat.ne_of_lt hlt) (intItems xs), ⟨⟨_, Heap.get?_push_size _ rfl, rfl, rfl⟩, hT.push _⟩, fun b hb => ?_, (fun _ _ => intItems_at), fun h' tk t' hk => ?_⟩
  · show b < (s.heap.push _).objs.size
    rw [Heap.size_push]
    rcases List.mem_cons.mp hb with z | hb
    · rw [z]; exact Nat.lt_succ_self _
    · rw [List.mem_singleton.mp hb]; exact Nat.lt_succ_of_lt hlt
  · have hk2 : ∀ b o, s.heap.get? b = some o → h'.get? b = some o := fun b o z => hk b o (by rw [List.mem_singleton]; exact Nat.ne_of_lt (Heap.lt_size z)) (Heap.get?_push_of_some _ z)
    have e3 : preSum (numAt xs) (intItems xs).size = ns.sum := by
      have e4 : (intItems xs).size = xs.size := by simp [intItems]
      rw [e4, preSum_eq, List.take_of_length_le (by simp), hn]
    rw [e3]
    exact ⟨.int ns.sum, H, I.kept (t' := tk) hk2, ⟨_, rfl⟩, q⟩

theorem args_min_two (a b : Value) : argsOk "min" ⟨[a, b], []⟩ := by unfold argsOk; kernel_rfl
/-- min(t, u), tuples of ints: u where it is less, otherwise t -/
theorem cr_minT (hc : X.calm = true) (hu : X.A.units + 2 < cLine) : CallR X (.builtin "min") (fun vs H Q => ∃ (a b : Addr) (ns ms : List Int), vs = [V.ref a, V.ref b] ∧ SqT X.K H a (ns.map V.int) ∧ SqT X.K H b (ms.map V.int) ∧
    Q (.ref (if HT.lexLt ms ns = true then b else a)) H) := by
  intro pins s σ H vs us Q I r h
  obtain ⟨a, b, ns, ms, rfl, ha, hb, q⟩ := h
  obtain ⟨its, r1, p1, _⟩ := I.tuple ha
  obtain ⟨its2, r2, p2, _⟩ := I.tuple hb
  obtain ⟨u, u', rfl, ru, ru'⟩ := vals2 r
  cases ru
  cases ru'
  have i1 : IntsAre its.toArray.toList ns := intsAre_of r1
  have i2 : IntsAre its2.toArray.toList ms := intsAre_of r2
  have hname : (toString "min" ++ toString ".loop" : String) = "min.loop" := by decide
  have fin : ∀ (v : Value) (s' : Shared), v = .ref (if HT.lexLt ms ns = true then b else a) → (∃ h' tk, s' = { s with heap := h', toks := tk } ∧ ∀ b o, s.heap.get? b = some o → h'.get? b = some o) → EP X pins σ Q v s' := by
    rintro v s' rfl ⟨h', tk, rfl, hk⟩
    exact ⟨.ref (if HT.lexLt ms ns = true then b else a), H, I.kept (t' := tk) hk, rfl, q⟩
  refine call_function_tree PySem.F.kind_min PySem.F.plain_min PySem.F.entry_min (args_min_two _ _) ?_
  show wpAny _ X.A.in1 (Builtin.Builtins.bindParams "min" ["key", "default"] 0 ⟨[], []⟩ >>= _) _ _ s
  refine wpAny_bind (wpAny_of_eq (show Builtin.Builtins.bindParams "min" ["key", "default"] 0 ⟨[], []⟩ = pure [none, none] from rfl) ?_)
  show wpAny _ X.A.in1 (newTuple [.ref a, .ref b] >>= _) _ _ s
  refine wpAny_bind (wpAny_newObj_type ?_)
  have hT : (s.heap.push { cls := .type "tuple", data := .seq #[.ref a, .ref b] }).IsTuple s.heap.objs.size #[.ref a, .ref b] := ⟨_, Heap.get?_push_size _ rfl, rfl, 0, rfl⟩
  refine wpAny_bind (PySem.W.iter_tupleW (s := { s with heap := s.heap.push { cls := .type "tuple", data := .seq #[.ref a, .ref b] } }) (A := X.A.in1) (I.ok.hd hc) hT fun s2 e2 W st hfp hw hk => ?_)
  refine wpAny_bind (wpAny_newObj_type ?_)
  rw [hname]
  have old1 : ∀ c o, s.heap.get? c = some o → (s.heap.push { cls := .type "tuple", data := .seq #[.ref a, .ref b] }).get? c = some o := fun c o e => Heap.get?_push_of_some _ e
  refine wpAny_pure ⟨plainId_quiet PySem.F.plain_min_loop _, codeAny_min_loop_firstH (n := 2) (P := fun i v => (#[.ref a, .ref b] : Array Value)[i]? = some v) W s.heap (fun c o e => hw c o (old1 c o e))
    (fun i j => HT.lexLt (if i = 0 then ns else ms) (if j = 0 then ns else ms)) ?_ s2.heap.objs.size (fun hm => Nat.lt_irrefl _ (hfp _ hm)) (fresh_in fun c o e => hk c o (old1 c o e)) _ (by decide) (fun c o e => Heap.get?_push_of_some _ (hk c o (old1 c o e)))
    (W.frame 0 s2 _ s2.toks st (Nat.le_refl _) fun c _ o e => Heap.get?_push_of_some _ e) (Heap.get?_push_size _ rfl) fun v s' hP hm => ?_⟩
  · intro i j vi vj s3 Q3 E3 hkeep hi hj hq
    have at2 : ∀ {i : Nat} {v : Value}, (#[.ref a, .ref b] : Array Value)[i]? = some v → (i = 0 ∧ v = .ref a) ∨ (i = 1 ∧ v = .ref b) := fun {i v} e => by
      match i, e with
      | 0, e => exact .inl ⟨rfl, by simpa using e.symm⟩
      | 1, e => exact .inr ⟨rfl, by simpa using e.symm⟩
      | n + 2, e => simp at e
    have q1 : IsTup s3.heap a its.toArray := let ⟨o, e, c, m, d⟩ := p1; ⟨o, hkeep a o e, c, m, d⟩
    have q2 : IsTup s3.heap b its2.toArray := let ⟨o, e, c, m, d⟩ := p2; ⟨o, hkeep b o e, c, m, d⟩
    have hu2 : X.A.in1.units < cLine := by show X.A.units + 1 < cLine; omega
    rcases at2 hi with ⟨rfl, rfl⟩ | ⟨rfl, rfl⟩ <;> rcases at2 hj with ⟨rfl, rfl⟩ | ⟨rfl, rfl⟩
    · exact HT.lt_tupInts q1 q1 i1 i1 hu2 hq
    · exact HT.lt_tupInts q1 q2 i1 i2 hu2 hq
    · exact HT.lt_tupInts q2 q1 i2 i1 hu2 hq
    · exact HT.lt_tupInts q2 q2 i2 i2 hu2 hq
  · have hm2 := Moved.drop_new (tk := s2.toks) hm (Nat.le_refl _)
    obtain ⟨h', tk, es, hk'⟩ := PySem.W.moved_old e2 rfl hm2
    refine fin v s' ?_ ⟨h', tk, es, fun c o e => hk' c o (old1 c o e)⟩
    have eb : argBest (fun i j => HT.lexLt (if i = 0 then ns else ms) (if j = 0 then ns else ms)) (2 - 1) = if HT.lexLt ms ns = true then 1 else 0 := rfl
    rw [eb] at hP
    by_cases z : HT.lexLt ms ns = true
    · rw [if_pos z] at hP ⊢
      simpa using hP.symm
    · rw [if_neg z] at hP ⊢
      simpa using hP.symm

/-- list.extend of a tuple -/
theorem extend_tup {prog : Program} {w : World} {A : Around} {E : Value → Shared → Prop} {s : Shared} {l b : Addr} {items items2 : Array Value} {n : Nat} {Q : Value → Shared → Prop}
    (hl : s.heap.get? l = some { cls := .type "list", data := .seq items n }) (hb : IsTup s.heap b items2) (hlong : ¬ (!items.isEmpty && Builtin.List.listTooLong (items.size + items2.size)) = true)
    (h1 : items.size ≤ sizeLine) (h2 : (items ++ items2).size ≤ sizeLine + 1) (h : Q .none { s with heap := s.heap.update l (Obj.mapSeq fun x => x ++ items2) }) :
    wpAny (model prog w) A (call (.builtin "list.extend") [.ref l, .ref b]) Q E s := by
  obtain ⟨ob, e, c, m, d⟩ := id hb
  refine wpAny_call_entry PySem.F.slot_list_extend ⟨_, hl, rfl⟩ PySem.F.entry_list_extend ?_ (PySem.F.args_list_extend_2 _ _)
  unfold Builtin.«list.extend»
  refine wpAny_bind (wpAny_of_eq (a := (Value.ref l, Value.ref b)) (by rfl) ?_)
  show wpAny _ _ (Builtin.List.listExtendWith (.ref l) (.ref b) .none) _ _ s
  unfold Builtin.List.listExtendWith
  refine wpAny_bind (wpAny_typeOf (T := "tuple") ⟨ob, e, c⟩ ?_)
  have hc : (Builtin.List.listSameRef (.ref l) (.ref b) || Value.type "tuple" == Value.type "list" || Value.type "tuple" == Value.type "tuple") = true := by simp
  simp only [hc, if_true]
  refine wpAny_bind ?_
  unfold Builtin.List.listItems
  refine wpAny_bind (wpAny_seqItems e d (wpAny_pure ?_))
  refine wpAny_bind (wpAny_bind (wpAny_seqItems hl rfl (wpAny_pure ?_)))
  show wpAny _ _ (do if (!items.isEmpty && Builtin.List.listTooLong (items.size + items2.size)) = true then _ else _) _ _ _
  rw [if_neg hlong]
  refine wpAny_bind ?_
  show wpAny _ _ (updateSeq l fun x => x ++ items2) _ _ _
  exact wpAny_updateSeq (hz := h1) (_hz' := h2) hl rfl (wpAny_pure ⟨_, rfl, h⟩)
/-- xs.extend(t), t a tuple -/
theorem mt_extendT : MtM X "list.extend" (fun x vs H Q => ∃ l b xs zs, x = .ref l ∧ vs = [.ref b] ∧ H l = some (.lst xs) ∧ H b = some (.tup zs) ∧ xs.length + zs.length ≤ sizeLine ∧ Q .non (upd H l (.lst (xs ++ zs)))) := by
  intro pins s σ H x vs v us Q I rx rv h
  obtain ⟨l, b, xs, zs, rfl, rfl, hH, hB, hz, q⟩ := h
  cases rx
  obtain ⟨u, rfl, ru⟩ := rv.one
  cases ru
  obtain ⟨z, its, n, r, hl, e⟩ := I.lstM hH
  obtain ⟨_, its2, r2, p2⟩ := I.hok b _ hB
  have hsz : its.toArray.size + its2.toArray.size ≤ sizeLine := by
    rw [List.size_toArray, List.size_toArray, ← r.length, ← r2.length]
    exact hz
  have hlong : ¬ (!its.toArray.isEmpty && Builtin.List.listTooLong (its.toArray.size + its2.toArray.size)) = true := by
    rw [notLongL hsz, Bool.and_false]
    exact Bool.false_ne_true
  refine extend_tup e p2 hlong (by omega) (by rw [Array.size_append]; omega) ?_
  refine ⟨.non, _, I.lset (t' := s.toks) (its' := its ++ its2) hH e (by simp) (r.append r2) ?_, rfl, q⟩
  rw [List.length_append]
  exact hz

/-! ### dicts with tuple keys -/
def mergeT (kvs more : List (List L2.Key × V)) : List (List L2.Key × V) := more.foldl (fun acc kv => putK acc kv.1 kv.2) kvs
theorem mergeT_len : ∀ (more kvs : List (List L2.Key × V)), (mergeT kvs more).length ≤ kvs.length + more.length
  | [], kvs => Nat.le_refl _
  | p :: r, kvs => by
    have ih := mergeT_len r (putK kvs p.1 p.2)
    have h := length_putK kvs p.1 p.2
    show (mergeT (putK kvs p.1 p.2) r).length ≤ kvs.length + (r.length + 1)
    omega
theorem kt_merge {H : Hp} : ∀ {more kvs : List (List L2.Key × V)} {xs ys : List (List L2.Key × Addr × Value)}, KT H kvs xs → KT H more ys → KT H (mergeT kvs more) (storedAllH xs ys)
  | [], kvs, xs, _, r, .nil => r
  | p :: more, kvs, xs, _, r, .cons h t => by
    obtain ⟨h1, h2, h3⟩ := h
    have k := r.put p.1 (y := p.2) (by exact h2) h3
    have z := kt_merge k t
    show KT H (mergeT (putK kvs p.1 p.2) more) _
    rw [h1] at z ⊢
    exact z
/-- d.update(e), dicts with tuple keys, d not empty -/
theorem mt_updateT (hu : X.A.units + 1 < cLine) : MtR X "dict.update" (fun x vs H Q => ∃ a b kvs more, x = .ref a ∧ vs = [.ref b] ∧ a ≠ b ∧ H a = some (.dT kvs) ∧ H b = some (.dT more) ∧ kvs ≠ [] ∧ kvs.length + more.length ≤ sizeLine ∧ Q .non (upd H a (.dT (mergeT kvs more)))) := by
  intro pins s σ H x vs v us Q I rx rv h
  obtain ⟨a, b, kvs, more, rfl, rfl, hab, ha, hb, hne, hz, q⟩ := h
  cases rx
  obtain ⟨u, rfl, ru⟩ := rv.one
  cases ru
  obtain ⟨z1, d1, xs, k1, D1⟩ := dt_of I.hok ha
  obtain ⟨z2, d2, ys, k2, D2⟩ := dt_of I.hok hb
  have l1 := Paired.length k1
  have l2 := Paired.length k2
  refine PySem.call_update_dictH (tupleKind_room_in1 hu) hab d2 D1 D2 (.inl fun e => hne (by rw [e] at l1; exact List.length_eq_zero_iff.mp l1)) (by omega) fun h' D1' D2' hs => ?_
  obtain ⟨o, es, ep, ho, h2, h3, h4, _, h5⟩ := D1'
  refine ⟨.non, _, d_write (ob := .dT (mergeT kvs more)) (t' := s.toks) I (by rw [ha]; exact True.intro) hs ⟨o, ho⟩ ⟨Nat.le_trans (mergeT_len more kvs) hz, d1, _, (kt_merge k1 k2).keeps fun c ys' ec => ?_, o, es, ep, ho, h2, h3, h4, h5⟩, rfl, q⟩
  rw [upd_ne (ne_of ec ha (fun z => nomatch z))]
  exact ec
/-- t.index(n), ints -/
theorem mt_indexTI : MtR X "tuple.index" (fun x vs H Q => ∃ (a : Addr) (ns : List Int) (k : Int), x = .ref a ∧ vs = [.int k] ∧ SqT X.K H a (ns.map V.int) ∧ k ∈ ns ∧ Q (.int (ns.idxOf k : Nat)) H) := by
  intro pins s σ H x vs v us Q I rx rv h
  obtain ⟨a, ns, k, rfl, rfl, hs, hk, q⟩ := h
  cases rx
  obtain ⟨u, rfl, t, rfl⟩ := rv.one
  obtain ⟨its, r, p, _⟩ := I.tuple hs
  exact PySem.SeqAt.tuple_index_ints (show s.heap.IsTuple a its.toArray from p) r.ints hk ⟨.int (ns.idxOf k : Nat), H, I.tok _, ⟨_, rfl⟩, q⟩
end
end K31

set_option Elab.async false
set_option linter.all false
set_option maxRecDepth 100000
set_option maxHeartbeats 4000000
namespace K31
open PySem PySem.Spec PyProof.Rows L2
/-! ### rules of my own, 2: zip of lists and tuples in any order, enumerate of a tuple -/
inductive Kd where
  | li
  | tu
def SqK (K : PySem.W.Frag) : Kd → Hp → Addr → List V → Prop
  | .li => SqL K
  | .tu => SqT K
def ItAt : Kd → Heap → Addr → Addr → Nat → Prop
  | .li => fun h it a i => h.IsListIter it a i
  | .tu => fun h it a i => h.IsTupleIter it a i
def StAt : Kd → Heap → Addr → Array Value → Prop
  | .li => fun h a its => h.IsList a its
  | .tu => fun h a its => h.IsTuple a its
theorem kd_draws {prog : Program} {w : World} {A : Around} (hh : A.handled = none) (k : Kd) (it l : Addr) (hne : l ≠ it) (items : Array Value) :
    Draws prog w A it [it, l] items.size (fun i v => items[i]? = some v) (fun i h => ItAt k h it l i ∧ StAt k h l items) := by
  cases k with
  | li => exact Draws.list hh it l hne items
  | tu => exact Draws.tuple hh it l hne items
def kd_obj : Kd → Addr → Obj
  | .li, a => { cls := .type "list_iterator", data := .fields #[.ref a, .int 0 0] }
  | .tu, a => { cls := .type "tuple_iterator", data := .fields #[.ref a, .int 0 0] }
theorem kd_begins (k : Kd) (a : Addr) (items : Array Value) : Begins (.ref a) (kd_obj k a) (fun h => StAt k h a items) := by
  cases k with
  | li => exact begins_list a items
  | tu => exact begins_tuple a items
theorem kd_first (k : Kd) {h : Heap} {it a : Addr} (e : h.get? it = some (kd_obj k a)) : ItAt k h it a 0 := by
  cases k with
  | li => exact ⟨_, e, rfl, rfl⟩
  | tu => exact ⟨_, e, rfl, rfl⟩
theorem ItAt.obj {k : Kd} {h : Heap} {it a : Addr} {i : Nat} (e : ItAt k h it a i) : ∃ o, h.get? it = some o ∧ ∀ v, o.data ≠ .cell v := by
  cases k with
  | li =>
    obtain ⟨o, h1, _, d⟩ := e
    exact ⟨o, h1, fun v q => by rw [d] at q; cases q⟩
  | tu =>
    obtain ⟨o, h1, _, d⟩ := e
    exact ⟨o, h1, fun v q => by rw [d] at q; cases q⟩
theorem ItAt.at {k : Kd} {h h' : Heap} {it a : Addr} {i : Nat} (e : ItAt k h it a i) (q : ∀ o, h.get? it = some o → h'.get? it = some o) : ItAt k h' it a i := by
  cases k with
  | li => exact Heap.IsListIter.at e q
  | tu => exact Heap.IsTupleIter.at e q
theorem StAt.lt {k : Kd} {h : Heap} {a : Addr} {its : Array Value} (e : StAt k h a its) : a < h.objs.size := by
  cases k with
  | li =>
    obtain ⟨o, h1, _⟩ := e
    exact Heap.lt_size h1
  | tu =>
    obtain ⟨o, h1, _⟩ := e
    exact Heap.lt_size h1
section
variable {X : Cx} {pins : List (Addr × Obj)} {σ : L2.St} {H : Hp} {s : Shared}
theorem inv_kd (I : Inv X pins σ H s) (k : Kd) {a : Addr} {xs : List V} (h : SqK X.K k H a xs) : ∃ its : List Value, Vals xs its ∧ StAt k s.heap a its.toArray := by
  cases k with
  | li => obtain ⟨its, rv, p, _⟩ := I.list h; exact ⟨its, rv, p.isList⟩
  | tu => obtain ⟨its, rv, p, _⟩ := I.tuple h; exact ⟨its, rv, p⟩
theorem inv_kd_inj (I : Inv X pins σ H s) (k : Kd) {a : Addr} {xs ys : List V} (h : SqK X.K k H a xs) (h' : SqK X.K k H a ys) : xs = ys := by
  cases k with
  | li => exact I.list_inj h h'
  | tu => exact I.tuple_inj h h'
end
/-- the sequences at a and b as they stand at each turn, the items in new pairs -/
def ItzK (K : PySem.W.Frag) (k m : Kd) (a b : Addr) : It :=
  ⟨fun i H => ∃ (xs ys : List V) (x y : V), SqK K k H a xs ∧ SqK K m H b ys ∧ xs[i]? = some x ∧ ys[i]? = some y,
    fun i H v H' => ∃ T x y, v = .ref T ∧ H T = none ∧ H' = upd H T (.tup [x, y]) ∧ (∀ xs, SqK K k H a xs → xs[i]? = some x) ∧ ∀ ys, SqK K m H b ys → ys[i]? = some y,
    fun i H => ∃ xs ys : List V, SqK K k H a xs ∧ SqK K m H b ys ∧ xs.length = i ∧ ys.length = i⟩
structure Five (z TI TO i1 i2 a b : Addr) : Prop where
  sep : ZipSep2 z TI TO i1 i2 [i1, a] [i2, b]
  a1 : a ≠ i1
  b2 : b ≠ i2
theorem turn_zipK {P : Program} {w : World} {K : PySem.W.Frag} {elts : List Expr} {kk : Nat} {tpos : Pos} {k m : Kd} {a b z TI TO i1 i2 : Addr} (D : Five z TI TO i1 i2 a b) :
    Turn P w K (.Tuple elts kk tpos) (ItzK K k m a b) [z, TI, TO, i1, i2] z (fun i h => IsZip h z TI TO .none ∧ IsTupOf2 h TI (.ref i1) (.ref i2) ∧ (∃ x y, IsTupOf2 h TO x y) ∧ ItAt k h i1 a i ∧ ItAt m h i2 b i) where
  mem := by simp
  obj := fun i h st c hc => by
    obtain ⟨hz, hTI, ⟨x, y, hTO⟩, h1, h2⟩ := st
    have e' : c = z ∨ c = TI ∨ c = TO ∨ c = i1 ∨ c = i2 := by simpa using hc
    rcases e' with q | q | q | q | q
    · rw [q]; exact ⟨_, hz, fun v q => nomatch q⟩
    · rw [q]; exact ⟨_, hTI, fun v q => nomatch q⟩
    · rw [q]; exact ⟨_, hTO, fun v q => nomatch q⟩
    · rw [q]; exact h1.obj
    · rw [q]; exact h2.obj
  keep := fun i h h' st kp => by
    obtain ⟨hz, hTI, ⟨x, y, hTO⟩, h1, h2⟩ := st
    exact ⟨kp z (by simp) _ hz, kp TI (by simp) _ hTI, ⟨x, y, kp TO (by simp) _ hTO⟩, h1.at fun o q => kp i1 (by simp) o q, h2.at fun o q => kp i2 (by simp) o q⟩
  item := by
    intro X hP hw hK hc i pins s σ H E I hf st hg
    subst hP hw hK
    obtain ⟨hz, hTI, hTO, h1, h2⟩ := st
    obtain ⟨xs, ys, x, y, hqx, hqy, hx, hy⟩ := hg
    obtain ⟨its, rv, p⟩ := inv_kd I k hqx
    obtain ⟨its2, rv2, p2⟩ := inv_kd I m hqy
    obtain ⟨u, hu, ru⟩ := rv.get hx
    obtain ⟨u2, hu2, ru2⟩ := rv2.get hy
    have hh : X.A.in1.handled = none := I.ok.hd hc
    have D1 := kd_draws (prog := X.prog) (w := X.w) hh k i1 a D.a1 its.toArray
    have D2 := kd_draws (prog := X.prog) (w := X.w) hh m i2 b D.b2 its2.toArray
    have W := GoesN.zip2 (elts := elts) (x1 := kk) (pos := tpos) D.sep D1 D2
    have g1 : i < its.toArray.size := by
      have z1 := (List.getElem?_eq_some_iff.mp hu).1
      simpa using z1
    have g2 : i < its2.toArray.size := by
      have z1 := (List.getElem?_eq_some_iff.mp hu2).1
      simpa using z1
    have hlt : ∀ c ∈ [z, TI, TO, i1, i2], c < s.heap.objs.size := fun c hcm => by
      have e' : c = z ∨ c = TI ∨ c = TO ∨ c = i1 ∨ c = i2 := by simpa using hcm
      obtain ⟨x0, y0, hTO⟩ := hTO
      obtain ⟨o1, e1, _⟩ := h1.obj
      obtain ⟨o2, e2, _⟩ := h2.obj
      rcases e' with q | q | q | q | q
      · rw [q]; exact Heap.lt_size hz
      · rw [q]; exact Heap.lt_size hTI
      · rw [q]; exact Heap.lt_size hTO
      · rw [q]; exact Heap.lt_size e1
      · rw [q]; exact Heap.lt_size e2
    refine wpAny_mono (W.goes i s (fun v s2 => ∃ x H', Inv X pins σ H' s2 ∧ RelV x v ∧ (ItzK X.K k m a b).yld i H x H' ∧ (IsZip s2.heap z TI TO .none ∧ IsTupOf2 s2.heap TI (.ref i1) (.ref i2) ∧ (∃ x y, IsTupOf2 s2.heap TO x y) ∧ ItAt k s2.heap i1 a (i + 1) ∧ ItAt m s2.heap i2 b (i + 1)) ∧ ∀ b ∈ [z, TI, TO, i1, i2], H' b = none) E (by omega) ⟨hz, hTI, hTO, ⟨h1, p⟩, ⟨h2, p2⟩⟩ ?_) (fun r s1 q => ?_) fun _ _ e => e
    · rintro v h' tk ⟨T, x', y', rfl, hT, ex, ey, hTup⟩ ⟨hz', hTI', hTO', ⟨h1', _⟩, ⟨h2', _⟩⟩ hk _
      have ux : x' = u := by
        have : its.toArray[i]? = some u := by simpa using hu
        rw [this] at ex
        exact (Option.some.inj ex).symm
      have uy : y' = u2 := by
        have : its2.toArray[i]? = some u2 := by simpa using hu2
        rw [this] at ey
        exact (Option.some.inj ey).symm
      subst ux uy
      have new : ObjOk X.prog X.w (upd H T (.tup [x, y])) h' T (.tup [x, y]) :=
        ⟨by show 2 ≤ sizeLine; decide, [x', y'], .cons ru (.cons ru2 .nil), hTup⟩
      have I1 : Inv X pins σ (upd H T (.tup [x, y])) { s with heap := h', toks := tk } :=
        I.turnedNew (t' := tk) (ch := [z, TI, TO, i1, i2]) (fun c o hb q => hk c o (fun q' => hb (by
          have e' : c = z ∨ c = TO ∨ c = i1 ∨ c = i2 := by simpa using q'
          rcases e' with e' | e' | e' | e' <;> simp [e'])) q) hf hT new
      refine ⟨.ref T, _, I1, rfl, ⟨T, x, y, rfl, I.hok.fresh hT, rfl, fun l hl => by rw [inv_kd_inj I k hl hqx]; exact hx, fun l hl => by rw [inv_kd_inj I m hl hqy]; exact hy⟩, ⟨hz', hTI', hTO', h1', h2'⟩, fun c hcm => ?_⟩
      have hlt' := Nat.lt_of_lt_of_le (hlt c hcm) hT
      rw [upd_ne (Nat.ne_of_lt hlt')]
      exact (hf c hcm).1
    · obtain ⟨v, rfl, q⟩ := q
      exact ⟨v, rfl, q⟩
  done := by
    intro X hP hw hK hc i pins s σ H E I hf st hg
    subst hP hw hK
    obtain ⟨hz, hTI, hTO, h1, h2⟩ := st
    obtain ⟨xs, ys, hqx, hqy, l1, l2⟩ := hg
    obtain ⟨its, rv, p⟩ := inv_kd I k hqx
    obtain ⟨its2, rv2, p2⟩ := inv_kd I m hqy
    have hh : X.A.in1.handled = none := I.ok.hd hc
    have D1 := kd_draws (prog := X.prog) (w := X.w) hh k i1 a D.a1 its.toArray
    have D2 := kd_draws (prog := X.prog) (w := X.w) hh m i2 b D.b2 its2.toArray
    have W := GoesN.zip2 (elts := elts) (x1 := kk) (pos := tpos) D.sep D1 D2
    have m1 := rv.length
    have m2 := rv2.length
    have e : min its.toArray.size its2.toArray.size = i := by simp; omega
    refine W.stops s _ E (by rw [e]; exact ⟨hz, hTI, hTO, ⟨h1, p⟩, ⟨h2, p2⟩⟩) fun h' tk hk _ => ?_
    exact I.turnedL (t' := tk) (ch := [z, TI, TO, i1, i2]) (fun c o hb q => hk c o (fun q' => hb (by
          have e' : c = z ∨ c = TO ∨ c = i1 ∨ c = i2 := by simpa using q'
          rcases e' with e' | e' | e' | e' <;> simp [e'])) q) hf
  self := fun A i s Q E st h => wpAny_pyIter_zip st.1 h
def iZipK (K : PySem.W.Frag) (k m : Kd) (ta : TA) : TI := fun σ H R => ta σ H fun vs H1 => ∃ a b xs ys, vs = [.ref a, .ref b] ∧ SqK K k H1 a xs ∧ SqK K m H1 b ys ∧ R (ItzK K k m a b) H1
theorem pi_zipK {X : Cx} (k m : Kd) {e e2 : Expr} {ta : TA} {p pos tpos : Pos} {elts : List Expr} {kk : Nat} (hg : Gl X "zip") (hm : X.mg "zip" = none) (ha : PA X [e, e2] ta)
    (hs : starEach [e, e2] X.env = (false, eval e X.env) :: starEach [e2] X.env := by rfl) (hpl : (backTo pos (starEach [e2] X.env)).any (·.1) = false := by rfl) :
    PI X (.Tuple elts kk tpos) (.Call (.Name "zip" p) [e, e2] [] pos) (iZipK X.K k m ta) := by
  refine ⟨fun pins s σ H R I h => ?_⟩
  refine Call_ (ld_blt I hg hm PyProof.Rows.boot_zip (PyProof.Rows.callWith_type1 (thn (ha.run pos pins s σ H _ I h) fun us s1 ⟨vs, H1, I1, r1, q1⟩ => ?_) hs hpl))
  obtain ⟨a, b, xs, ys, ex, hqx, hqy, q⟩ := q1
  subst ex
  obtain ⟨u, u', rfl, ru, ru'⟩ := vals2 r1
  cases ru
  cases ru'
  obtain ⟨its, rv, p1⟩ := inv_kd I1 k hqx
  obtain ⟨its2, rv2, p2⟩ := inv_kd I1 m hqy
  refine zip_begins2 (kd_begins k a its.toArray) (kd_begins m b its2.toArray) p1 p2 fun h' hz hTI hTO h1 h2 hsz hk => wpAny_pyIter_zip hz ?_
  have I2 : Inv X pins σ H1 { s1 with heap := h' } := I1.kept (t' := s1.toks) hk
  have fresh5 : ∀ c, c ∈ [s1.heap.objs.size + 4, s1.heap.objs.size + 2, s1.heap.objs.size + 3, s1.heap.objs.size, s1.heap.objs.size + 1] → FpOk X pins H1 c := fun c hcm => by
    have e' : c = s1.heap.objs.size + 4 ∨ c = s1.heap.objs.size + 2 ∨ c = s1.heap.objs.size + 3 ∨ c = s1.heap.objs.size ∨ c = s1.heap.objs.size + 1 := by simpa using hcm
    have hle : s1.heap.objs.size ≤ c := by
      rcases e' with z | z | z | z | z
      · rw [z]; exact Nat.le_add_right _ _
      · rw [z]; exact Nat.le_add_right _ _
      · rw [z]; exact Nat.le_add_right _ _
      · rw [z]; exact Nat.le_refl _
      · rw [z]; exact Nat.le_add_right _ _
    exact I1.fpOk hle (I1.hok.fresh hle)
  have D : Five (s1.heap.objs.size + 4) (s1.heap.objs.size + 2) (s1.heap.objs.size + 3) s1.heap.objs.size (s1.heap.objs.size + 1) a b :=
    ⟨zip_sep2 (fun c hc => by rw [List.mem_singleton.mp hc]; exact p1.lt) (fun c hc => by rw [List.mem_singleton.mp hc]; exact p2.lt), Nat.ne_of_lt p1.lt, Nat.ne_of_lt (Nat.lt_succ_of_lt p2.lt)⟩
  exact ⟨s1.heap.objs.size + 4, [s1.heap.objs.size + 4, s1.heap.objs.size + 2, s1.heap.objs.size + 3, s1.heap.objs.size, s1.heap.objs.size + 1], _, _, H1, rfl, I2, turn_zipK D, ⟨hz, hTI, ⟨_, _, hTO⟩, kd_first k h1, kd_first m h2⟩, fresh5, q⟩
/-- a loop over zip of two sequences of one length -/
theorem for_zipK {K : PySem.W.Frag} {k m : Kd} {a b : Addr} {xs ys : List V} {g : TG} {tb : TS} {D : Ends} {σ : L2.St} {H : Hp} (hl : xs.length = ys.length) (Pv : Nat → L2.St → Hp → Prop) (h0 : Pv 0 σ H) (hq : ∀ i σ H, Pv i σ H → SqK K k H a xs ∧ SqK K m H b ys)
    (hs : ∀ (i : Nat) (x y : V) (T : Addr) (σ : L2.St) (H : Hp), xs[i]? = some x → ys[i]? = some y → Pv i σ H → H T = none → g (.ref T) σ (upd H T (.tup [x, y])) fun σ2 H2 => tb { D with nx := Pv (i + 1), ct := Pv (i + 1), bk := D.nx } σ2 H2) (hd : ∀ σ H, Pv xs.length σ H → D.nx σ H) :
    ∃ W : Nat → Nat → L2.St → Hp → Prop, (∃ m, W 0 m σ H) ∧ ∀ i n σ H, W i n σ H →
      ((ItzK K k m a b).stop i H ∧ D.nx σ H) ∨ ((ItzK K k m a b).go i H ∧ ∃ N : L2.St → Hp → Prop, (∀ σ' H', N σ' H' → ∃ m', m' < n ∧ W (i + 1) m' σ' H') ∧ ∀ v H', (ItzK K k m a b).yld i H v H' → g v σ H' fun σ2 H2 => tb { D with nx := N, ct := N, bk := D.nx } σ2 H2) := by
  refine ⟨fun i n σ H => n = xs.length - i ∧ i ≤ xs.length ∧ Pv i σ H, ⟨xs.length, rfl, Nat.zero_le _, h0⟩, ?_⟩
  rintro i n σ H ⟨rfl, hi, p⟩
  obtain ⟨qx, qy⟩ := hq i σ H p
  by_cases hlt : i < xs.length
  · have hx : xs[i]? = some xs[i] := List.getElem?_eq_getElem hlt
    have hlt2 : i < ys.length := by omega
    have hy : ys[i]? = some ys[i] := List.getElem?_eq_getElem hlt2
    refine .inr ⟨⟨xs, ys, _, _, qx, qy, hx, hy⟩, Pv (i + 1), fun σ' H' p' => ⟨xs.length - (i + 1), by omega, rfl, hlt, p'⟩, fun v H' y => ?_⟩
    obtain ⟨T, x', y', rfl, hT, rfl, f1, f2⟩ := y
    exact hs i x' y' T σ H (f1 xs qx) (f2 ys qy) p hT
  · have e : i = xs.length := by omega
    subst e
    exact .inl ⟨⟨xs, ys, qx, qy, rfl, hl.symm⟩, hd σ H p⟩

/-! ### enumerate(tuple) -/
set_option maxHeartbeats 1000000 in
theorem meets_enum_one {v : Value} {o : Obj} {H : Heap → Prop} (B : Begins v o H) :
    Meets (Builtin.«enumerate.__new__» ⟨[.type "enumerate", v], []⟩) (fun _ R s => H s.heap ∧
      R (.ok (.ret (.ref (s.heap.push o).objs.size))) { s with heap := (s.heap.push o).push { cls := .type "enumerate", data := .fields #[.none, .bool false, .ref s.heap.objs.size, rawInt 0, .none, .none] } }) :=
  .of_wp fun prog w A R s h => by
    obtain ⟨hp, g, d, tk, os⟩ := s
    obtain ⟨h1, h⟩ := h
    have hsub := sub_enumerate
    have q1 : ∀ {A' : Around} {E : Value → Shared → Prop} {Q : Value → Shared → Prop}, Q (.ref hp.objs.size) ⟨hp.push o, g, d, tk, os⟩ → wpAny (model prog w) A' (pyIter v) Q E ⟨hp, g, d, tk, os⟩ :=
      fun q => B.iter prog w _ _ ⟨hp, g, d, tk, os⟩ _ h1 q
    wp_walk using q1
    refine wpAny_stack_any fun st => wpAny_pure ?_
    split
    · rename_i c _ _ _ _ _
      cases (c == Value.type "enumerate")
      · wp_walk using q1
        exact ⟨_, rfl, h⟩
      · wp_walk using q1
        exact ⟨_, rfl, h⟩
    · wp_walk using q1
      exact ⟨_, rfl, h⟩
theorem enum_one {prog : Program} {w : World} {A : Around} {E : Value → Shared → Prop} {s : Shared} {v : Value} {o : Obj} {H : Heap → Prop} {Q : Value → Shared → Prop} (B : Begins v o H) (h1 : H s.heap)
    (h : ∀ h', IsEnum h' (s.heap.objs.size + 1) s.heap.objs.size 0 .none → h'.get? s.heap.objs.size = some o → h'.objs.size = s.heap.objs.size + 2 →
      (∀ b o, s.heap.get? b = some o → h'.get? b = some o) → Q (.ref (s.heap.objs.size + 1)) { s with heap := h' }) :
    wpAny (model prog w) A (call (.type "enumerate") [v]) Q E s := by
  refine callType_new F.called_enumerate (by decide) (F.typeCall_enumerate_1 _) (F.newCall_enumerate_1 _) (fun obj => F.args_object_init_2 obj _) F.entry_enumerate_new
    (meets_enum_one B) ⟨h1, ?_⟩
  have hz : (s.heap.push o).objs.size = s.heap.objs.size + 1 := Heap.size_push ..
  have he := Heap.get?_push_size (s.heap.push o) (o := { cls := .type "enumerate", data := .fields #[.none, .bool false, .ref s.heap.objs.size, rawInt 0, .none, .none] }) rfl
  show _ ∧ _
  rw [hz] at he ⊢
  exact ⟨⟨_, he, rfl⟩, h _ he (Heap.get?_push_of_some _ (Heap.get?_push_size _ B.free)) (by rw [Heap.size_push, hz]) fun b o x => Heap.get?_push_of_some _ (Heap.get?_push_of_some _ x)⟩
/-- the sequence at a as it stands at each turn, each item in a new pair after its index -/
def IteK (K : PySem.W.Frag) (k : Kd) (a : Addr) : It :=
  ⟨fun i H => ∃ (xs : List V) (x : V), SqK K k H a xs ∧ xs[i]? = some x, fun i H v H' => ∃ T x, v = .ref T ∧ H T = none ∧ H' = upd H T (.tup [.int (i : Nat), x]) ∧ ∀ xs, SqK K k H a xs → xs[i]? = some x, fun i H => ∃ xs : List V, SqK K k H a xs ∧ xs.length = i⟩
theorem turn_enumK {P : Program} {w : World} {K : PySem.W.Frag} {elts : List Expr} {kk : Nat} {tpos : Pos} {k : Kd} {a e it : Addr} (hne : e ≠ it) (hea : e ≠ a) (hai : a ≠ it) :
    Turn P w K (.Tuple elts kk tpos) (IteK K k a) [e, it] e (fun i h => (∃ old, IsEnum h e it ((i : Nat) : Int) old) ∧ ItAt k h it a i) where
  mem := by simp
  obj := fun i h st b hb => by
    obtain ⟨⟨old, he⟩, hi⟩ := st
    have e' : b = e ∨ b = it := by simpa using hb
    rcases e' with z | z
    · rw [z]; exact ⟨_, he, fun v q => nomatch q⟩
    · rw [z]; exact hi.obj
  keep := fun i h h' st kp => let ⟨⟨old, he⟩, hi⟩ := st; ⟨⟨old, kp e (by simp) _ he⟩, hi.at fun o q => kp it (by simp) o q⟩
  item := by
    intro X hP hw hK hc i pins s σ H E I hf st hg
    subst hP hw hK
    obtain ⟨⟨old, he⟩, hit⟩ := st
    obtain ⟨xs, x, hq, hx⟩ := hg
    obtain ⟨its, rv, p⟩ := inv_kd I k hq
    obtain ⟨u, hu, ru⟩ := rv.get hx
    have hh : X.A.in1.handled = none := I.ok.hd hc
    have D1 := kd_draws (prog := X.prog) (w := X.w) hh k it a hai its.toArray
    have W := GoesN.enumFrom (elts := elts) (x1 := kk) (pos := tpos) 0 D1 e hne (by simp [hne, hea]) (by simp)
    have g1 : i < its.toArray.size := by
      have z1 := (List.getElem?_eq_some_iff.mp hu).1
      simpa using z1
    have hlt : ∀ c ∈ [e, it], c < s.heap.objs.size := fun c hcm => by
      have e' : c = e ∨ c = it := by simpa using hcm
      obtain ⟨o1, e1, _⟩ := hit.obj
      rcases e' with q | q
      · rw [q]; exact Heap.lt_size he
      · rw [q]; exact Heap.lt_size e1
    refine wpAny_mono (W.goes i s (fun v s2 => ∃ x H', Inv X pins σ H' s2 ∧ RelV x v ∧ (IteK X.K k a).yld i H x H' ∧ ((∃ old, IsEnum s2.heap e it (((i + 1 : Nat) : Nat) : Int) old) ∧ ItAt k s2.heap it a (i + 1)) ∧ ∀ b ∈ [e, it], H' b = none) E g1 ⟨⟨old, by simpa using he⟩, hit, p⟩ ?_) (fun r s1 q => ?_) fun _ _ e => e
    · rintro v h' tk ⟨T, t, x', rfl, hT, ex, hTup⟩ ⟨⟨old', he'⟩, h1', _⟩ hk _
      have ux : x' = u := by
        have : its.toArray[i]? = some u := by simpa using hu
        rw [this] at ex
        exact (Option.some.inj ex).symm
      subst ux
      have new : ObjOk X.prog X.w (upd H T (.tup [.int (i : Nat), x])) h' T (.tup [.int (i : Nat), x]) :=
        ⟨by show 2 ≤ sizeLine; decide, [.int (0 + (i : Int)) t, x'], .cons ⟨t, by simp⟩ (.cons ru .nil), hTup⟩
      have I1 : Inv X pins σ (upd H T (.tup [.int (i : Nat), x])) { s with heap := h', toks := tk } :=
        I.turnedNew (t' := tk) (ch := [e, it]) (fun c o hb q => hk c o hb q) hf hT new
      refine ⟨.ref T, _, I1, rfl, ⟨T, x, rfl, I.hok.fresh hT, rfl, fun l hl => by rw [inv_kd_inj I k hl hq]; exact hx⟩, ⟨⟨old', by simpa using he'⟩, h1'⟩, fun c hcm => ?_⟩
      have hlt' := Nat.lt_of_lt_of_le (hlt c hcm) hT
      rw [upd_ne (Nat.ne_of_lt hlt')]
      exact (hf c hcm).1
    · obtain ⟨v, rfl, q⟩ := q
      exact ⟨v, rfl, q⟩
  done := by
    intro X hP hw hK hc i pins s σ H E I hf st hg
    subst hP hw hK
    obtain ⟨⟨old, he⟩, hit⟩ := st
    obtain ⟨xs, hq, l1⟩ := hg
    obtain ⟨its, rv, p⟩ := inv_kd I k hq
    have hh : X.A.in1.handled = none := I.ok.hd hc
    have D1 := kd_draws (prog := X.prog) (w := X.w) hh k it a hai its.toArray
    have W := GoesN.enumFrom (elts := elts) (x1 := kk) (pos := tpos) 0 D1 e hne (by simp [hne, hea]) (by simp)
    have m1 := rv.length
    have e1 : its.toArray.size = i := by simp; omega
    refine W.stops s _ E (by rw [e1]; exact ⟨⟨old, by simpa using he⟩, hit, p⟩) fun h' tk hk _ => ?_
    exact I.turnedL (t' := tk) (ch := [e, it]) (fun c o hb q => hk c o hb q) hf
  self := fun A i s Q E st h => let ⟨⟨_, he⟩, _⟩ := st; wpAny_pyIter_enum he h
def iEnumK (K : PySem.W.Frag) (k : Kd) (ta : TA) : TI := fun σ H R => ta σ H fun vs H1 => ∃ a xs, vs = [.ref a] ∧ SqK K k H1 a xs ∧ R (IteK K k a) H1
theorem pi_enumK {X : Cx} (k : Kd) {e : Expr} {ta : TA} {p pos tpos : Pos} {elts : List Expr} {kk : Nat} (hg : Gl X "enumerate") (hm : X.mg "enumerate" = none) (ha : PA X [e] ta) (hs : starEach [e] X.env = [(false, eval e X.env)] := by rfl) :
    PI X (.Tuple elts kk tpos) (.Call (.Name "enumerate" p) [e] [] pos) (iEnumK X.K k ta) := by
  refine ⟨fun pins s σ H R I h => ?_⟩
  refine Call_ (ld_blt I hg hm boot_enumerate (PyProof.Rows.callWith_type1 (thn (ha.run pos pins s σ H _ I h) fun us s1 ⟨vs, H1, I1, r1, q1⟩ => ?_) hs rfl))
  obtain ⟨a, xs, ex, hq, q⟩ := q1
  subst ex
  obtain ⟨u, rfl, ru⟩ := vals1 r1
  cases ru
  obtain ⟨its, rv, p'⟩ := inv_kd I1 k hq
  refine enum_one (kd_begins k a its.toArray) p' fun h' he hit hsz hk => wpAny_pyIter_enum he ?_
  have I2 : Inv X pins σ H1 { s1 with heap := h' } := I1.kept (t' := s1.toks) hk
  have ha := p'.lt
  refine ⟨s1.heap.objs.size + 1, [s1.heap.objs.size + 1, s1.heap.objs.size], _, _, H1, rfl, I2, turn_enumK (k := k) (a := a) (Nat.succ_ne_self _) (Nat.ne_of_gt (Nat.lt_succ_of_lt ha)) (Nat.ne_of_lt ha), ⟨⟨.none, he⟩, kd_first k hit⟩, fun b hb => ?_, q⟩
  have e' : b = s1.heap.objs.size + 1 ∨ b = s1.heap.objs.size := by simpa using hb
  have hle : s1.heap.objs.size ≤ b := by
    rcases e' with z | z
    · rw [z]; exact Nat.le_add_right _ _
    · rw [z]; exact Nat.le_refl _
  exact I1.fpOk hle (I1.hok.fresh hle)
theorem for_enumK {K : PySem.W.Frag} {k : Kd} {a : Addr} {xs : List V} {g : TG} {tb : TS} {D : Ends} {σ : L2.St} {H : Hp} (Pv : Nat → L2.St → Hp → Prop) (h0 : Pv 0 σ H) (hq : ∀ i σ H, Pv i σ H → SqK K k H a xs)
    (hs : ∀ (i : Nat) (x : V) (T : Addr) (σ : L2.St) (H : Hp), xs[i]? = some x → Pv i σ H → H T = none → g (.ref T) σ (upd H T (.tup [.int (i : Nat), x])) fun σ2 H2 => tb { D with nx := Pv (i + 1), ct := Pv (i + 1), bk := D.nx } σ2 H2) (hd : ∀ σ H, Pv xs.length σ H → D.nx σ H) :
    ∃ W : Nat → Nat → L2.St → Hp → Prop, (∃ m, W 0 m σ H) ∧ ∀ i n σ H, W i n σ H →
      ((IteK K k a).stop i H ∧ D.nx σ H) ∨ ((IteK K k a).go i H ∧ ∃ N : L2.St → Hp → Prop, (∀ σ' H', N σ' H' → ∃ m', m' < n ∧ W (i + 1) m' σ' H') ∧ ∀ v H', (IteK K k a).yld i H v H' → g v σ H' fun σ2 H2 => tb { D with nx := N, ct := N, bk := D.nx } σ2 H2) := by
  refine ⟨fun i n σ H => n = xs.length - i ∧ i ≤ xs.length ∧ Pv i σ H, ⟨xs.length, rfl, Nat.zero_le _, h0⟩, ?_⟩
  rintro i n σ H ⟨rfl, hi, p⟩
  have qx := hq i σ H p
  by_cases hlt : i < xs.length
  · have hx : xs[i]? = some xs[i] := List.getElem?_eq_getElem hlt
    refine .inr ⟨⟨xs, _, qx, hx⟩, Pv (i + 1), fun σ' H' p' => ⟨xs.length - (i + 1), by omega, rfl, hlt, p'⟩, fun v H' y => ?_⟩
    obtain ⟨T, x', rfl, hT, rfl, f1⟩ := y
    exact hs i x' T σ H (f1 xs qx) p hT
  · have e : i = xs.length := by omega
    subst e
    exact .inl ⟨⟨xs, qx, rfl⟩, hd σ H p⟩
end K31

set_option Elab.async false
set_option linter.all false
set_option maxRecDepth 100000
set_option maxHeartbeats 4000000
namespace K31
open PySem PySem.Spec PyProof.Rows L2
/-! ### rules of my own, 3: sorted of tuples of ints -/
abbrev TB := Addr × List Int
def encT (b : TB) : PyData := .tuple (b.2.map PyData.int)
def TupB (H : Hp) (b : TB) : Prop := Rd H b.1 (.tup (b.2.map V.int)) ∧ b.2 ≠ []
theorem reads_ints {h : Heap} : ∀ {ns : List Int} {us : List Value}, Vals (ns.map V.int) us → ReadsAll h us (ns.map PyData.int) []
  | [], _, .nil => .nil
  | n :: ns, _, .cons r t => by
    obtain ⟨tk, rfl⟩ := r
    exact ReadsAll.cons (as := []) (bs := []) (.int n tk) (reads_ints t)
theorem reads_tup {P : Program} {w : World} {H : Hp} {h : Heap} (ok : HOk P w H h) {b : TB} (e : Rd H b.1 (.tup (b.2.map V.int))) : Reads h (.ref b.1) (encT b) [] := by
  obtain ⟨_, its, r, o, ho, hc, n, hd⟩ := (show ObjOk P w H h b.1 (.tup (b.2.map V.int)) from e.ok ok)
  exact .tuple ho hc hd (by simpa using reads_ints r)
theorem alikeT (bs : List TB) : PySem.W.AllAlike (bs.map encT) := PySem.W.AllAlike.of fun b b' => by
  show PySem.W.alikeAll (b.2.map PyData.int) (b'.2.map PyData.int) = true
  exact PySem.W.alike_ints _ _
theorem sortableT {bs : List TB} (h : ∀ b ∈ bs, b.2 ≠ []) : PySem.W.Sortable (bs.map encT) := .inl fun d hd => by
  obtain ⟨b, hb, rfl⟩ := List.mem_map.mp hd
  have hn := h b hb
  cases e : b.2 with
  | nil => exact absurd e hn
  | cons x r => exact ⟨.int x, r.map PyData.int, by simp [encT, e]⟩
theorem depthT (b : TB) : (encT b).depth = 1 := by
  show PyData.depthAll (b.2.map PyData.int) + 1 = 1
  rw [PySem.W.depth_ints]
def IsB (v : Value) (b : TB) : Prop := v = .ref b.1
theorem each_refs : ∀ bs : List TB, PySem.W.EachIs IsB (bs.map fun b => Value.ref b.1) bs
  | [] => .nil
  | _ :: r => .cons rfl (each_refs r)
theorem each_reads {P : Program} {w : World} {H : Hp} {h : Heap} (ok : HOk P w H h) : ∀ {bs : List TB}, (∀ b ∈ bs, TupB H b) → PySem.W.EachIs (fun v b => ∃ as, Reads h v (encT b) as) (bs.map fun b => Value.ref b.1) bs
  | [], _ => .nil
  | b :: r, hb => .cons ⟨[], reads_tup ok (hb b (by simp)).1⟩ (each_reads ok fun c hc => hb c (by simp [hc]))
theorem of_each : ∀ {us : List Value} {bs : List TB}, PySem.W.EachIs IsB us bs → us = bs.map fun b => Value.ref b.1
  | _, _, .nil => rfl
  | _, _, .cons h t => by rw [h, of_each t]; rfl
theorem vals_tb : ∀ {bs : List TB} {us : List Value}, Vals (bs.map fun b => V.ref b.1) us → us = bs.map fun b => Value.ref b.1
  | [], _, .nil => rfl
  | b :: r, _, .cons h t => by
    cases h
    rw [vals_tb t]
    rfl
theorem vals_tb' : ∀ bs : List TB, Vals (bs.map fun b => V.ref b.1) (bs.map fun b => Value.ref b.1)
  | [] => .nil
  | _ :: r => .cons rfl (vals_tb' r)
section
variable {X : Cx}
/-- sorted(xs), xs a list of tuples of ints that are not empty: a rearrangement, in a new list -/
theorem cr_sortedT (hu : X.A.units + 3 < cLine) : CallR X (.builtin "sorted") (fun vs H Q => ∃ (a : Addr) (bs : List TB), vs = [V.ref a] ∧ SqL X.K H a (bs.map fun b => V.ref b.1) ∧ (∀ b ∈ bs, TupB H b) ∧
    ∀ cs p, List.Perm cs bs → H p = none → Q (.ref p) (upd H p (.lst (cs.map fun b => V.ref b.1)))) := by
  intro pins s σ H vs us Q I r h
  obtain ⟨a, bs, rfl, hs, hb, q⟩ := h
  obtain ⟨its, rv, hl, hz⟩ := I.list hs
  obtain ⟨u, rfl, ru⟩ := vals1 r
  cases ru
  have e := vals_tb rv
  subst e
  rw [List.length_map] at hz
  refine PySem.W.sorted_data (R := IsB) (enc := encT) (bs := bs) hl.isList (each_refs bs) (each_reads I.hok hb) (alikeT bs) (sortableT fun b m => (hb b m).2) hz (fun b _ => by rw [depthT]; exact hu) fun out ho eo => ?_
  have e2 := of_each eo
  have hp : List.Perm (bs.mergeSort (PySem.W.dataLe false encT)) bs := List.mergeSort_perm _ _
  obtain ⟨c, hc⟩ := sortedAll_at s.heap (bs.map fun b => Value.ref b.1) (List.toArray out)
  refine ⟨.ref (s.heap.objs.size + 1), _, I.laid (t' := s.toks) (o := .lst ((bs.mergeSort (PySem.W.dataLe false encT)).map fun b => V.ref b.1)) (fun b u e => sortedAll_old e) (Nat.le_succ _) ⟨?_, out, c, ?_, hc⟩, rfl, q _ _ hp (I.hok.fresh (Nat.le_succ _))⟩
  · rw [List.length_map, hp.length_eq]
    exact hz
  · rw [e2]
    exact vals_tb' _

/-- the keys of a dict with keys of ints, as addresses -/
def KeysB (H : Hp) (kvs : List (List L2.Key × V)) (bs : List TB) : Prop := kvs.map (·.1) = bs.map (fun b => b.2.map Sum.inl) ∧ ∀ b ∈ bs, H b.1 = some (.tup (b.2.map V.int))
theorem keysB_of {H : Hp} : ∀ {kvs : List (List L2.Key × V)} {ks : List (List L2.Key × Addr × Value)} {ns : List (List Int)}, KT H kvs ks → kvs.map (·.1) = ns.map (List.map Sum.inl) → ∃ bs : List TB, bs.map (·.2) = ns ∧ bs.map (·.1) = ks.map (fun x => x.2.1) ∧ KeysB H kvs bs
  | _, _, [], .nil, _ => ⟨[], rfl, rfl, rfl, fun _ h => nomatch h⟩
  | _, _, _ :: _, .nil, e => by simp at e
  | _, _, [], .cons _ _, e => by simp at e
  | p :: kvs, x :: ks, n :: ns, .cons h t, e => by
    rw [List.map_cons, List.map_cons] at e
    obtain ⟨e1, e2⟩ := List.cons.inj e
    obtain ⟨bs, f1, f2, f3, f4⟩ := keysB_of t e2
    obtain ⟨h1, h2, h3⟩ := h
    refine ⟨(x.2.1, n) :: bs, by rw [List.map_cons, f1], by rw [List.map_cons, f2, List.map_cons], by rw [List.map_cons, f3, e1, List.map_cons], ?_⟩
    intro b hb
    rcases List.mem_cons.mp hb with rfl | hb
    · show H x.2.1 = _
      rw [h2, e1, List.map_map]
      rfl
    · exact f4 b hb
theorem items_keys {P : Program} {w : World} {ks : List (List L2.Key × Addr × Value)} {es : Array DictEntry} {acc : Array Value} (he : es.toList = ks.map (entryOfKey (tupleKind (mixKind P w))))
    (hn : acc.size = es.size) (hi : ∀ (j : Nat) (v : Value), acc[j]? = some v → ∃ en : DictEntry, es[j]? = some en ∧ v = en.key) : acc.toList = (ks.map fun x => x.2.1).map Value.ref := by
  have l1 := size_of_entries he
  apply List.ext_getElem?
  intro j
  rw [List.map_map, List.getElem?_map, Array.getElem?_toList]
  by_cases hj : j < acc.size
  · obtain ⟨en, e1, e2⟩ := hi j acc[j] (Array.getElem?_eq_getElem hj)
    rw [entry_at he j] at e1
    have hj2 : j < ks.length := by omega
    rw [List.getElem?_eq_getElem hj2] at e1 ⊢
    rw [Array.getElem?_eq_getElem hj, e2, ← Option.some.inj e1]
    rfl
  · rw [Array.getElem?_eq_none (by omega), List.getElem?_eq_none (by omega)]
    rfl
/-- what both forms of sorted over a dict with keys of ints begin with -/
theorem collect_keys {pins : List (Addr × Obj)} {s : Shared} {σ : L2.St} {H : Hp} {d : Addr} {kvs : List (List L2.Key × V)} {ns : List (List Int)} {A : Around} {E : Value → Shared → Prop} {R : List Value → Shared → Prop} (I : Inv X pins σ H s) (hA : A.handled = none) (hd : H d = some (.dT kvs)) (hk : kvs.map (·.1) = ns.map (List.map Sum.inl))
    (h : ∀ h' tk (bs : List TB), (∀ b o, s.heap.get? b = some o → h'.get? b = some o) → bs.map (·.2) = ns → KeysB H kvs bs → bs.length ≤ sizeLine → R (bs.map fun b => Value.ref b.1) { s with heap := h', toks := tk }) :
    wpAny (model X.prog X.w) A (collect (.ref d)) R E s := by
  obtain ⟨z, hs, ks, pr, o, es, ep, ho, hx, hdt, he, hn⟩ := (show ObjOk X.prog X.w H s.heap d (.dT kvs) from I.hok d _ hd)
  have l1 : es.size = ks.length := size_of_entries he
  have l2 : kvs.length = ks.length := Paired.length pr
  obtain ⟨bs, f1, f2, f3⟩ := keysB_of pr hk
  refine PySem.W.kdu_collect (kdl_raw hs hx hdt) hA ho (by omega) fun h' tk acc kp it => ?_
  have e := items_keys he it.1 it.2
  rw [← f2, List.map_map] at e
  rw [e]
  have hl : bs.length ≤ sizeLine := by
    have e3 := congrArg List.length f2
    rw [List.length_map, List.length_map] at e3
    omega
  exact h h' tk bs kp f1 f3 hl
/-- sorted(d), d a dict with keys of ints that are not empty -/
theorem cr_sortedDT (hc : X.calm = true) (hu : X.A.units + 3 < cLine) : CallR X (.builtin "sorted") (fun vs H Q => ∃ (d : Addr) (kvs : List (List L2.Key × V)) (ns : List (List Int)), vs = [V.ref d] ∧ H d = some (.dT kvs) ∧ kvs.map (·.1) = ns.map (List.map Sum.inl) ∧ (∀ n ∈ ns, n ≠ []) ∧
    ∀ (bs cs : List TB) p, bs.map (·.2) = ns → KeysB H kvs bs → List.Perm cs bs → H p = none → Q (.ref p) (upd H p (.lst (cs.map fun b => V.ref b.1)))) := by
  intro pins s σ H vs us Q I r h
  obtain ⟨d, kvs, ns, rfl, hd, hk, hne, q⟩ := h
  obtain ⟨u, rfl, ru⟩ := vals1 r
  cases ru
  refine Calls.call_function_entry PyProof.Rows.kind_sorted PyProof.Rows.plain_sorted PyProof.Rows.entry_sorted (PyProof.Rows.args_sorted1 _) ?_
  unfold Builtin.«sorted»
  refine wpAny_bind (m := checkCount "sorted" 1 1 _) (wpAny_pure ?_)
  refine wpAny_bind (collect_keys (A := X.A.in1) I (I.ok.hd hc) hd hk fun h' tk bs kp f1 f3 hl => ?_)
  have I1 : Inv X pins σ H { s with heap := h', toks := tk } := I.kept kp
  have hb : ∀ b ∈ bs, TupB H b := fun b m => ⟨.inl (f3.2 b m), hne _ (by rw [← f1]; exact List.mem_map.mpr ⟨b, m, rfl⟩)⟩
  refine wpAny_bind (wpAny_newList ?_ (by rw [List.length_map]; exact hl))
  have hoL : (h'.push (seqObj "list" (bs.map fun b => Value.ref b.1).toArray 0)).get? h'.objs.size = some (seqObj "list" (bs.map fun b => Value.ref b.1).toArray 0) := Heap.get?_push_size _ rfl
  show wpAny _ _ _ _ _ { s with heap := h'.push (seqObj "list" (bs.map fun b => Value.ref b.1).toArray 0), toks := tk }
  have old : ∀ b u, h'.get? b = some u → (h'.push (seqObj "list" (bs.map fun b => Value.ref b.1).toArray 0)).get? b = some u := fun b u e => Heap.get?_push_of_some _ e
  have er : PySem.W.EachIs (fun v b => ∃ as, Reads (h'.push (seqObj "list" (bs.map fun b => Value.ref b.1).toArray 0)) v (encT b) as ∧ h'.objs.size ∉ as) (bs.map fun b => Value.ref b.1) bs := by
    have go : ∀ cs : List TB, (∀ b ∈ cs, TupB H b) → PySem.W.EachIs (fun v b => ∃ as, Reads (h'.push (seqObj "list" (bs.map fun b => Value.ref b.1).toArray 0)) v (encT b) as ∧ h'.objs.size ∉ as) (cs.map fun b => Value.ref b.1) cs := by
      intro cs hcs
      induction cs with
      | nil => exact .nil
      | cons c r ih => exact .cons ⟨[], PyProof.Rows.Reads.keeps old (reads_tup I1.hok (hcs c (by simp)).1), by simp⟩ (ih fun b m => hcs b (by simp [m]))
    exact go bs hb
  refine wpAny_bind (wpAny_holding (PySem.W.list_sort_data (s := { s with heap := h'.push (seqObj "list" (bs.map fun b => Value.ref b.1).toArray 0), toks := tk }) (R := IsB) (enc := encT) hoL (each_refs bs) er (alikeT bs) (sortableT fun b m => (hb b m).2) hl (fun b _ => by rw [depthT]; exact hu) fun out ho eo => ?_))
  have e2 := of_each eo
  have hp : List.Perm (bs.mergeSort (PySem.W.dataLe false encT)) bs := List.mergeSort_perm _ _
  obtain ⟨e', he'⟩ := PyProof.Rows.sortedHeap_at (vs := bs.map fun b => Value.ref b.1) (out := List.toArray out) hoL
  refine wpAny_pure ⟨_, rfl, .ref h'.objs.size, _, I1.laid (t' := tk) (o := .lst ((bs.mergeSort (PySem.W.dataLe false encT)).map fun b => V.ref b.1)) (fun b u e => ?_) (Nat.le_refl _) ⟨?_, out, e', ?_, he'⟩, rfl, q bs _ _ f1 f3 hp (I1.hok.fresh (Nat.le_refl _))⟩
  · have hbl : b < h'.objs.size := Heap.lt_size e
    rw [PyProof.Rows.sortedHeap_old (Nat.ne_of_lt hbl) (by rw [size_push']; exact Nat.lt_succ_of_lt hbl)]
    exact old b u e
  · rw [List.length_map, hp.length_eq]
    exact hl
  · rw [e2]
    exact vals_tb' _
end
end K31

set_option Elab.async false
set_option linter.all false
set_option maxRecDepth 100000
set_option maxHeartbeats 4000000
namespace K31
open PySem PySem.Spec PyProof.Rows L2
/-! ### rules of my own, 4: sorted(d, key=f), d a dict with keys of ints, f of the program -/
/-- the heap without what stands at a -/
def lost (h : Heap) (a : Addr) : Heap := h.update a fun o => { o with data := .freed }
theorem lost_ne {h : Heap} {a b : Addr} (e : b ≠ a) : (lost h a).get? b = h.get? b := Heap.get?_update_ne h b a _ e
theorem lost_at (h : Heap) (a : Addr) : (lost h a).get? a = none := by
  cases e : (lost h a).get? a with
  | none => rfl
  | some o =>
    obtain ⟨e1, e2⟩ := (Heap.get?_eq_some _ _ _).mp e
    have e3 : (lost h a).objs[a]? = (h.objs[a]?).map fun o => { o with data := .freed } := by
      show (h.objs.modify a _)[a]? = _
      simp [Array.getElem?_modify]
    rw [e3] at e1
    cases e4 : h.objs[a]? with
    | none => rw [e4] at e1; cases e1
    | some q =>
      rw [e4] at e1
      have e5 := Option.some.inj e1
      rw [← e5] at e2
      exact nomatch e2
/-- the key (sum, tuple itself) as data -/
def keyT (b : TB) : PyData := .tuple [.int b.2.sum, .tuple (b.2.map PyData.int)]
theorem keyAlike (bs : List TB) : PySem.W.AllAlike (bs.map keyT) := PySem.W.AllAlike.of fun b b' => by
  have e := PySem.W.alike_ints b.2 b'.2
  simp [keyT, PySem.W.alike, PySem.W.alikeAll, e]
theorem keySortable (bs : List TB) : PySem.W.Sortable (bs.map keyT) := .inl fun d hd => by
  obtain ⟨b, hb, rfl⟩ := List.mem_map.mp hd
  exact ⟨_, _, rfl⟩
theorem keyDepth (b : TB) : (keyT b).depth ≤ 2 := by
  have e : PyData.depthAll (b.2.map PyData.int) = 0 := PySem.W.depth_ints _
  simp [keyT, PyData.depth, PyData.depthAll, e]
theorem reads_key {P : Program} {w : World} {H : Hp} {h : Heap} (ok : HOk P w H h) {b : TB} {t : Addr} (e : Rd H b.1 (.tup (b.2.map V.int))) (et : H t = some (.tup [.int b.2.sum, .ref b.1])) : Reads h (.ref t) (keyT b) [] := by
  obtain ⟨_, its, r, o, ho, hc, n, hd⟩ := ok _ _ et
  obtain ⟨u1, u2, rfl, r1, r2⟩ := vals2 r
  obtain ⟨tk, rfl⟩ := r1
  cases r2
  refine .tuple ho hc hd ?_
  exact ReadsAll.cons (as := []) (bs := []) (.int _ tk) (ReadsAll.cons (as := []) (bs := []) (reads_tup ok e) .nil)
def KeyAt (H : Hp) (t : Addr) (b : TB) : Prop := H t = some (.tup [.int b.2.sum, .ref b.1])
theorem each_keys {P : Program} {w : World} {H : Hp} {h : Heap} (ok : HOk P w H h) : ∀ {ts : List Addr} {bs : List TB}, (∀ b ∈ bs, Rd H b.1 (.tup (b.2.map V.int))) → Paired (KeyAt H) ts bs → PySem.W.EachIs (fun v k => ∃ as, Reads h v k as) (ts.map Value.ref) (bs.map keyT)
  | _, _, _, .nil => .nil
  | _, b :: _, hb, .cons e t => .cons ⟨[], reads_key ok (hb b (by simp)) e⟩ (each_keys ok (fun c hc => hb c (by simp [hc])) t)
/-- between two keys -/
structure Between (X : Cx) (s0 : Shared) (H0 : Hp) (a kS : Addr) (e1 : Nat) (done : List TB) (s : Shared) (H : Hp) (ts : List Addr) (e : Nat) : Prop where
  os : s.os = s0.os
  bare : AllBare s.gens
  un : Un (frs X.stack) [] H0 H s0.heap s.heap
  hok : HOk X.prog X.w H s.heap
  same : Same H0 H
  na : s.heap.get? a = some (seqObj "list" #[] e1)
  nk : s.heap.get? kS = some (seqObj "list" (ts.map Value.ref).toArray e)
  fa : H a = none
  fk : H kS = none
  keys : Paired (KeyAt H) ts done
theorem paired_snoc {α β : Type} {R : α → β → Prop} : ∀ {xs : List α} {ys : List β} {x : α} {y : β}, Paired R xs ys → R x y → Paired R (xs ++ [x]) (ys ++ [y])
  | _, _, _, _, .nil, h => .cons h .nil
  | _, _, _, _, .cons a t, h => .cons a (paired_snoc t h)
theorem paired_imp {α β : Type} {R S : α → β → Prop} (h : ∀ x y, R x y → S x y) : ∀ {xs : List α} {ys : List β}, Paired R xs ys → Paired S xs ys
  | _, _, .nil => .nil
  | _, _, .cons a t => .cons (h _ _ a) (paired_imp h t)
/-- an untracked new object written: what is tracked stands -/
theorem hok_but {P : Program} {w : World} {H : Hp} {h h' : Heap} (ok : HOk P w H h) {ch : List Addr} (hn : ∀ b ∈ ch, H b = none) (k : ∀ b o, b ∉ ch → h.get? b = some o → h'.get? b = some o) : HOk P w H h' := fun b u e => by
  refine (ok b u e).stay (fun c v hc q => k c v (fun m => ?_) q) (fun _ q => q) fun _ _ q => q
  have z := hn c m
  rcases hc with y | y
  · rw [y, e] at z; cases z
  · rw [y] at z; cases z
theorem un_but {fs ex : List Addr} {H H' : Hp} {h h1 h2 : Heap} (u : Un fs ex H H' h h1) {ch : List Addr} (hn : ∀ b ∈ ch, h.objs.size ≤ b) (k : ∀ b o, b ∉ ch → h1.get? b = some o → h2.get? b = some o) : Un fs ex H H' h h2 := by
  have far : ∀ {b : Addr} {o : Obj}, h.get? b = some o → b ∉ ch := fun {b o} e m => absurd (Nat.lt_of_lt_of_le (Heap.lt_size e) (hn b m)) (Nat.lt_irrefl _)
  refine ⟨fun b o e n hf hx => k b o (far e) (u.keep b o e n hf hx), fun b o e n hf hx => ?_, u.free, fun b o e hx => ?_, u.tups, u.frzs, u.tbls⟩
  · obtain ⟨sl, q⟩ := u.slot b o e n hf hx
    exact ⟨sl, k b _ (far e) q⟩
  · obtain ⟨o', q⟩ := u.there b o e hx
    exact ⟨o', k b o' (far e) q⟩
theorem un_lay {fs ex : List Addr} {H H' : Hp} {h h' : Heap} {a : Addr} {o : HO} (u : Un fs ex H H' h h') (hn : h.objs.size ≤ a) (hf : H' a = none) : Un fs ex H (upd H' a o) h h' := by
  refine ⟨u.keep, u.slot, fun b q e n hx => ?_, u.there, fun b xs e => ?_, fun b q x e => ?_, fun b ps e => ?_⟩
  · rw [upd_ne (Nat.ne_of_lt (Nat.lt_of_lt_of_le (Heap.lt_size e) hn))]
    exact u.free b q e n hx
  · have z := u.tups b xs e
    rw [upd_ne (ne_of_none z hf)]
    exact z
  · have z := u.frzs b q x e
    rw [upd_ne (ne_of_none z hf)]
    exact z
  · obtain ⟨m, z⟩ := u.tbls b ps e
    exact ⟨m, by rw [upd_ne (ne_of_none z hf)]; exact z⟩
theorem hok_lay {P : Program} {w : World} {H : Hp} {h : Heap} {a : Addr} {o : HO} (ok : HOk P w H h) (hf : H a = none) (new : ObjOk P w (upd H a o) h a o) : HOk P w (upd H a o) h := fun b u e => by
  by_cases hb : b = a
  · subst hb
    rw [upd_same] at e
    cases e
    exact new
  · rw [upd_ne hb] at e
    exact (ok b u e).stay (fun _ _ _ q => q) (fun c q => by rw [upd_ne (ne_of_none q hf)]; exact q) fun c xs q => by rw [upd_ne (ne_of_none q hf)]; exact q
end K31

set_option Elab.async false
set_option linter.all false
set_option maxRecDepth 100000
set_option maxHeartbeats 4000000
namespace K31
open PySem PySem.Spec PyProof.Rows L2
/-! ### rules of my own, 5: a dict comprehension with keys that are tuples -/
theorem setT {X : Cx} {pins : List (Addr × Obj)} {σ : L2.St} {H : Hp} {s : Shared} {E : Value → Shared → Prop} {D b : Addr} {kvs : List (List L2.Key × V)} {k : List L2.Key} {v : V} {r : Value} {Q : Unit → Shared → Prop} (hu : X.A.units + 1 < cLine) (I : Inv X pins σ H s)
    (hD : H D = some (.dT kvs)) (hb : H b = some (.tup (k.map kV))) (hz : kvs.length < sizeLine) (rv : RelV v r) (h : ∀ s', Inv X pins σ (upd H D (.dT (putK kvs k v))) s' → Q () s') : wpAny (model X.prog X.w) X.A (dictSet D (.ref b) r) Q E s := by
  obtain ⟨z, hd, xs, rel, dd⟩ := dt_of I.hok hD
  have hzx : xs.length ≤ sizeLine := by rw [← Paired.length rel]; exact z
  have hl : (putK kvs k v).length ≤ sizeLine := by have := length_putK kvs k v; omega
  refine wpAny_dictSet_heap (hsz := hzx) (show (tupleKind (mixKind X.prog X.w)).room X.A from by show X.A.units < cLine; omega) (key_of I.hok hb) dd fun h' dd' hs => h _ ?_
  obtain ⟨q, es, ep, hq, h2, h3, h4, _, h5⟩ := dd'
  refine d_write (ob := .dT (putK kvs k v)) I (by rw [hD]; exact True.intro) hs ⟨q, hq⟩ ⟨hl, hd, _, (rel.put k hb rv).keeps fun c ys ec => ?_, q, es, ep, hq, h2, h3, h4, h5⟩
  rw [upd_ne (ne_of ec hD (fun z => nomatch z))]
  exact ec
def tDcT (wi : TI) (g : TG) (tk tv : TE) (vs : List Nat) : TE := fun σ H Q => wi σ H fun J H1 => ∀ D, H1 D = none → ∃ W : Nat → Nat → Hp → Prop, (∃ m, W 0 m (upd H1 D (.dT []))) ∧ ∀ i m H, W i m H →
  (J.stop i H ∧ Q (.ref D) H) ∨ (J.go i H ∧ ∃ Nx : Hp → Prop, (∀ H', Nx H' → ∃ m', m' < m ∧ W (i + 1) m' H') ∧ ∀ x H', J.yld i H x H' → g x (wipe σ vs) H' fun σ2 H2 => wipe σ2 vs = wipe σ vs ∧
    tk σ2 H2 fun y H4 => tv σ2 H4 fun z H5 => ∃ kvs k b, y = V.ref b ∧ H5 D = some (.dT kvs) ∧ H5 b = some (.tup (k.map kV)) ∧ kvs.length < sizeLine ∧ Nx (upd H5 D (.dT (putK kvs k z))))
section
variable {X : Cx}
theorem pe_dcT {kx vx tg iter : Expr} {scope : Scope} {own : List (Str × Nat)} {pos : Pos} {wi : TI} {g : TG} {tk tv : TE} (hc : X.calm = true) (hu : X.A.units + 1 < cLine) (hN : X.N.Nodup) (hi : PI X tg iter wi) (ok : BlkOk X.N X.env.scope scope own)
    (hg : ∀ (s : Shared) (H : Hp) (C : Addr) (cl : List (Str × Addr)) (fp : List Addr), PG (X.blk s H scope (compEnvC scope cl C X.env) fp) tg g)
    (hk : ∀ (s : Shared) (H : Hp) (C : Addr) (cl : List (Str × Addr)) (fp : List Addr), PE (X.blk s H scope (compEnvC scope cl C X.env) fp) kx tk)
    (he : ∀ (s : Shared) (H : Hp) (C : Addr) (cl : List (Str × Addr)) (fp : List Addr), PE (X.blk s H scope (compEnvC scope cl C X.env) fp) vx tv) (hs : ∀ x, foldedSetIterable iter X.env x = pure x := by intro _; rfl) :
    PE X (.DictComp kx vx [⟨tg, iter, [], 0⟩] scope pos) (tDcT wi g tk tv (own.map (·.2))) := by
  refine ⟨fun pins s σ H Q I h => ?_⟩
  rw [arm_eval_DictComp]
  have hfree : ∀ y ∈ scope.names, y.2 = .free → ∃ c, X.env.cells.lookup y.1 = some c := fun y hy e => (ok.free y hy e).elim (fun z => I.ok.has _ (.inl z)) fun z => I.ok.has _ (.inr z)
  refine wpAny_comprehension_free (use := none) rfl hs (closure_ok hfree) ok.kind (fun y hy e => by rw [ok.uniq y hy, e]) (thn (hi.run pins s σ H _ I h) fun xv s1 hx => thn hx fun itv s2 h2 => ?_)
  obtain ⟨it, fp, tn, J, H2, rfl, I2, T, st2, f2, q⟩ := h2
  refine wpAny_newObj_type (newEnv_comp ?_)
  have hDn : H2 s2.heap.objs.size = none := I2.hok.fresh (Nat.le_refl _)
  obtain ⟨W, ⟨m0, w0⟩, turn⟩ := q s2.heap.objs.size hDn
  have sz : ∀ b ∈ fp, b < s2.heap.objs.size := fun b hb => Heap.lt_size (T.obj _ _ st2 b hb).choose_spec.1
  obtain ⟨s3, es3⟩ : ∃ s3 : Shared, s3 = { s2 with heap := s2.heap.push { cls := .type "dict", data := .dict #[] } } := ⟨_, rfl⟩
  have h3 : s3.heap = s2.heap.push { cls := .type "dict", data := .dict #[] } := by rw [es3]
  obtain ⟨D, eD⟩ : ∃ D, D = s2.heap.objs.size := ⟨_, rfl⟩
  obtain ⟨H3, eH3⟩ : ∃ H3, H3 = upd H2 D (.dT []) := ⟨_, rfl⟩
  have I3 : Inv X pins σ H3 s3 := by
    rw [eH3, eD, es3]
    exact I2.laid (t' := s2.toks) (fun b o e => Heap.get?_push_of_some _ e) (Nat.le_refl _) (dt_empty s2.heap I2.big)
  have n3 : ∀ b ∈ fp, H3 b = none := fun b hb => by
    rw [eH3, upd_ne (by rw [eD]; exact Nat.ne_of_lt (sz b hb))]
    exact (f2 b hb).1
  have f3 : ∀ b ∈ fp, FpOk X pins H3 b ∧ b < s3.heap.objs.size := fun b hb => ⟨⟨n3 b hb, (f2 b hb).2⟩, by rw [h3, Heap.size_push]; exact Nat.lt_succ_of_lt (sz b hb)⟩
  have I4 := block_start I3 ok hN f3
  have pg := hg s3 H3 s3.heap.objs.size (cellsFrom (s3.heap.objs.size + 1) scope.names (cloFrom X.env.cells scope.names [])) fp
  have pk := hk s3 H3 s3.heap.objs.size (cellsFrom (s3.heap.objs.size + 1) scope.names (cloFrom X.env.cells scope.names [])) fp
  have pe := he s3 H3 s3.heap.objs.size (cellsFrom (s3.heap.objs.size + 1) scope.names (cloFrom X.env.cells scope.names [])) fp
  rw [← eD] at w0 turn
  rw [← eH3] at w0
  rw [← eD]
  have st4 : tn 0 (pushCells (s3.heap.push { cls := .type "dict", data := .dict #[] }) scope.names) := T.keep _ _ _ st2 fun b _ o e => pushCells_keeps _ _ _ _ (Heap.get?_push_of_some _ (by rw [h3]; exact Heap.get?_push_of_some _ e))
  have hgoal : ∀ s4 ce, s4 = ({ s3 with heap := pushCells (s3.heap.push { cls := .type "dict", data := .dict #[] }) scope.names } : Shared) → ce = compEnvC scope (cellsFrom (s3.heap.objs.size + 1) scope.names (cloFrom X.env.cells scope.names [])) s3.heap.objs.size X.env →
      codeAny (model X.prog X.w) X.A (.compLoop (.DictComp kx vx [⟨tg, iter, [], 0⟩] scope pos) 0 (.ref it) (.ref D) ce) (compPost (model X.prog X.w) X.A X.xe none (EP X pins σ Q) (.ref D) s3.heap.objs.size) s4 := by
    intro s4 ce e4 ece
    rw [← ece] at I4 pg pk pe
    rw [← e4] at I4
    have cL : ce.locals = s3.heap.objs.size := by rw [ece]; rfl
    have own4 : ∀ {σ' : L2.St} {H' : Hp} {s' : Shared}, Inv (X.blk s3 H3 scope ce fp) [] σ' H' s' → (∀ b ∈ fp, H' b = none) → ∀ b ∈ fp, FpOk (X.blk s3 H3 scope ce fp) [] H' b := fun {σ' H' s'} I' hn b hb =>
      ⟨hn b hb, (I'.ok.exf b hb).1, I'.ok.exfs b hb, .inl hb, fun x c e => (I'.ok.exf b hb).2 x c e, fun p hp => absurd (show p ∈ ([] : List (Addr × Obj)) ++ [] from hp) (by simp)⟩
    refine compLoop_anyD (fun n s' => ∃ i H', Inv (X.blk s3 H3 scope ce fp) [] (wipe σ (own.map (·.2))) H' s' ∧ tn i s'.heap ∧ (∀ b ∈ fp, H' b = none) ∧ W i n H') ?_ m0 ⟨0, H3, I4, by rw [e4]; exact st4, n3, w0⟩
    rintro n s5 ⟨i, H5, I5, st5, n5, w5⟩
    rcases turn i n H5 w5 with ⟨stop, qq⟩ | ⟨go, Nx, hNx, step⟩
    · refine thnF (T.done (X.blk s3 H3 scope ce fp) rfl rfl rfl hc i [] s5 _ H5 (fun _ _ => False) I5 (own4 I5 n5) st5 stop) fun r s6 ⟨hr, I6⟩ => ?_
      subst hr
      have I7 : Inv X pins σ H5 s6 := I3.call' (ch := fp) I6.os I6.base I6.hok I6.bare fun b hb => ⟨(f3 b hb).1.2.2.2.1, (f3 b hb).1.2.1, (f3 b hb).1.2.2.2.2.1, (f3 b hb).1.2.2.2.2.2⟩
      have nC : H5 s3.heap.objs.size = none := by rw [← cL]; exact I6.free
      obtain ⟨m, hn, _⟩ := I6.loc
      replace hn : s6.heap.Ns ce.locals m := hn
      rw [cL] at hn
      obtain ⟨g0, g1, g2, g3, g4, g5⟩ : FpOk X pins H5 s3.heap.objs.size := I3.fpOk (Nat.le_refl _) nC
      exact ⟨m, hn, fun h'' sb => ⟨.ref D, H5, I7.turned (t' := s6.toks) (fun b o hb e => (sb.2 b hb).trans e) g0 g1 g3 g4 g5, rfl, qq⟩⟩
    · refine thnF (T.item (X.blk s3 H3 scope ce fp) rfl rfl rfl hc i [] s5 _ H5 (fun _ _ => False) I5 (own4 I5 n5) st5 go) fun r s6 ⟨u, hr, h6⟩ => ?_
      subst hr
      refine thnF h6 fun _ s7 ⟨x, H7, I7, r7, y7, st7, n7⟩ => ?_
      refine thnF (pg.run _ s7 _ H7 x u _ (I7.pinned (own4 I7 n7) (T.obj _ _ st7)) r7 (step x H7 y7)) fun _ s8 ⟨σ8, H8, I8, hw8, q8⟩ => ?_
      refine wpAny_pure ?_
      rw [if_pos rfl]
      refine thnF (pk.run _ s8 σ8 H8 _ I8 q8) fun z s10 ⟨yk, H10, I10, r10, q10⟩ => ?_
      refine thnF (pe.run _ s10 σ8 H10 _ I10 q10) fun z2 s11 ⟨yv, H11, I11, r11, kvs, k, b, ek, hD11, hb11, hz11, nx⟩ => ?_
      subst ek
      cases r10
      refine setT (X := X.blk s3 H3 scope ce fp) hu I11 hD11 hb11 hz11 r11 fun s12 I12 => ?_
      obtain ⟨m', hm, w'⟩ := hNx _ nx
      have stands : ∀ b ∈ fp, ∀ o, s7.heap.get? b = some o → s12.heap.get? b = some o ∧ upd H11 D (.dT (putK kvs k yv)) b = none := fun b hb o e =>
        have z := I12.pin (b, o) (List.mem_append_right _ (List.mem_append_right _ (mem_pinsAt hb e)))
        ⟨z.1, z.2.1⟩
      have hl : (wipe σ (own.map (·.2))).length = σ8.length := by rw [← hw8, wipe_length]
      refine ⟨m', hm, i + 1, _, (I12.unpinned (pins := [])).weak hl (fun j v e => ?_), T.keep _ _ _ st7 fun b hb o e => (stands b hb o e).1, fun b hb => ?_, w'⟩
      · rw [← hw8] at e
        exact (wipe_some e).1
      · obtain ⟨o, e, _⟩ := T.obj _ _ st7 b hb
        exact (stands b hb o e).2
  have loop := hgoal _ _ rfl rfl
  have fin := codeAny_compStart_dict (kx := kx) (vx := vx) (pos := pos) loop (T.self X.A 0 _ _ _ st4 loop)
  rw [es3, eD] at fin
  rw [eD]
  exact fin
end
end K31

set_option Elab.async false
set_option linter.all false
set_option maxRecDepth 100000
set_option maxHeartbeats 4000000
namespace K31
open PySem PySem.Spec PyProof.Rows L2
/-! ### rules of my own, 6: dict(pairs), the keys tuples -/
/-- a pair: where it stands, its key, its value -/
structure Pr where
  at_ : Addr
  key : Addr
  ks : List L2.Key
  val : V
def PrOk (H : Hp) (q : Pr) : Prop := H q.at_ = some (.tup [.ref q.key, q.val]) ∧ H q.key = some (.tup (q.ks.map kV))
theorem prs_raw {P : Program} {w : World} {H : Hp} {h : Heap} (ok : HOk P w H h) : ∀ qs : List Pr, (∀ q ∈ qs, PrOk H q) → ∃ rs : List (List L2.Key × Addr × Value), KT H (qs.map fun q => (q.ks, q.val)) rs ∧ rs.length = qs.length ∧
    ∀ (j : Nat) (q : Pr) (r : List L2.Key × Addr × Value), qs[j]? = some q → rs[j]? = some r → PairAt h q.at_ (.ref r.2.1) r.2.2
  | [], _ => ⟨[], .nil, rfl, fun j q r e => by simp at e⟩
  | q :: qs, hq => by
    obtain ⟨rs, k, l, at_⟩ := prs_raw ok qs fun c hc => hq c (by simp [hc])
    obtain ⟨h1, h2⟩ := hq q (by simp)
    obtain ⟨_, its, rv, o, ho, hc, n, hd⟩ := ok _ _ h1
    obtain ⟨u1, u2, rfl, r1, r2⟩ := vals2 rv
    cases r1
    refine ⟨(q.ks, q.key, u2) :: rs, .cons ⟨rfl, h2, r2⟩ k, by simp [l], ?_⟩
    rintro (_ | j) q' r' e1 e2
    · simp at e1 e2
      subst e1 e2
      exact .inl ⟨o, ho, hc, n, hd⟩
    · exact at_ j q' r' (by simpa using e1) (by simpa using e2)
section
variable {X : Cx}
theorem cr_dictPairs (hc : X.calm = true) (hu : X.A.units + 3 < cLine) : CallR X (.type "dict") (fun vs H Q => ∃ (a : Addr) (qs : List Pr), vs = [V.ref a] ∧ SqL X.K H a (qs.map fun q => V.ref q.at_) ∧ (∀ q ∈ qs, PrOk H q) ∧
    ∀ p, H p = none → Q (.ref p) (upd H p (.dT (mergeT [] (qs.map fun q => (q.ks, q.val)))))) := by
  intro pins s σ H vs us Q I r h
  obtain ⟨a, qs, rfl, hs, hq, q⟩ := h
  obtain ⟨its, rv, ⟨o, n, ho, hcl, hdn, hdt⟩, hz⟩ := I.list hs
  obtain ⟨u, rfl, ru⟩ := vals1 r
  cases ru
  rw [List.length_map] at hz
  obtain ⟨rs, kt, l, hat⟩ := prs_raw I.hok qs hq
  have P := PairArg.list (prog := X.prog) (w := X.w) a its.toArray (fun j => ((qs[j]?).map Pr.at_).getD 0) (rs.map fun r => (Value.ref r.2.1, r.2.2))
  have hil := rv.length
  rw [List.length_map] at hil
  refine call_dict_pairsH (knd := tupleKind (mixKind X.prog X.w)) (ps := rs) P (I.ok.hd hc) (show X.A.units + 2 < cLine by omega) ⟨⟨o, n, ho, hcl, hdn, hdt⟩, by simp; omega, fun j k v e => ?_⟩ ⟨by simp, fun i key v e => ?_⟩ (fun h' hk x hx => ?_) (by simp; omega) fun h' tk hd' hk => ?_
  · rw [List.getElem?_map] at e
    cases er : rs[j]? with
    | none => rw [er] at e; simp at e
    | some r =>
      rw [er] at e
      have e2 := Option.some.inj e
      have hj : j < rs.length := (List.getElem?_eq_some_iff.mp er).1
      have hj2 : j < qs.length := by omega
      have eq : qs[j]? = some qs[j] := List.getElem?_eq_getElem hj2
      have hp := hat j _ r eq er
      obtain ⟨u, hu1, hu2⟩ := rv.get (i := j) (x := V.ref qs[j].at_) (by rw [List.getElem?_map, eq]; rfl)
      cases hu2
      obtain ⟨rfl, rfl⟩ := Prod.mk.inj e2
      refine ⟨by simpa [eq] using hu1, ?_⟩
      simpa [eq] using hp
  · have e1 : (rs.map fun r => (Value.ref r.2.1, r.2.2))[i]? = some (key, v) := e
    rw [List.getElem?_map] at e1
    cases er : rs[i]? with
    | none => rw [er] at e1; simp at e1
    | some r =>
      rw [er] at e1
      obtain ⟨rfl, rfl⟩ := Prod.mk.inj (Option.some.inj e1)
      exact ⟨r.1, r.2.1, rfl, rfl⟩
  · have old : ∀ b o, b ∉ ([] : List Addr) → s.heap.get? b = some o → h'.get? b = some o := fun b o _ e => hk b o (Nat.ne_of_lt (Heap.lt_size e)) (fun z => nomatch z) e
    refine (tupleKind_stays (knd := mixKind X.prog X.w)).all h' old x.1 x.2.1 ?_
    obtain ⟨j, hj⟩ := List.mem_iff_getElem?.mp hx
    have go : ∀ {kvs : List (List L2.Key × V)} {rs : List (List L2.Key × Addr × Value)}, KT H kvs rs → ∀ x ∈ rs, (tupleKind (mixKind X.prog X.w)).is s.heap x.1 x.2.1 := by
      intro kvs rs k
      induction k with
      | nil => intro x hx; exact nomatch hx
      | cons h t ih =>
        intro x hx
        rcases List.mem_cons.mp hx with z | hx
        · rw [z, ← h.1]
          exact key_of I.hok h.2.1
        · exact ih x hx
    exact go kt x hx
  · have old : ∀ b u, s.heap.get? b = some u → h'.get? b = some u := fun b u e => hk b u (fun z => nomatch z) e
    obtain ⟨o', es, ep, g1, g2, g3, g4, _, g5⟩ := hd'
    have hl := mergeT_len (qs.map fun q => (q.ks, q.val)) []
    have hnew := kt_merge (H := H) .nil kt
    have hf := I.hok.fresh (Nat.le_refl s.heap.objs.size)
    refine ⟨.ref s.heap.objs.size, _, I.laid (t' := tk) (o := .dT (mergeT [] (qs.map fun q => (q.ks, q.val)))) old (Nat.le_refl _) ⟨?_, beq_eq_false_iff_ne.mpr (Ne.symm (Nat.ne_of_lt I.big)), _, hnew.keeps fun c ys ec => ?_, o', es, ep, g1, g2, g3, g4, g5⟩, rfl, q _ hf⟩
    · simp only [List.length_map, List.length_nil, Nat.zero_add] at hl
      omega
    · rw [upd_ne (ne_of_none ec hf)]
      exact ec
end
end K31

set_option Elab.async false
set_option linter.all false
set_option maxRecDepth 100000
set_option maxHeartbeats 4000000
namespace K31
open PySem PySem.Spec PyProof.Rows L2
/-! ### rules of my own, 7: tuples known to the object; dicts with such keys -/
/-- a tuple of ints, known to the object, without a dict of its own -/
def PT (H : Hp) (a : Addr) (ns : List Int) : Prop := ∃ o : Obj, H a = some (.frz o (.tup (ns.map V.int))) ∧ o.dict = none
/-- a tuple of ints -/
def IT (H : Hp) (a : Addr) (ns : List Int) : Prop := Rd H a (.tup (ns.map V.int))
theorem PT.it {H : Hp} {a : Addr} {ns : List Int} (h : PT H a ns) : IT H a ns := let ⟨o, e, _⟩ := h; .inr ⟨o, e⟩
theorem IT.sq {K : PySem.W.Frag} {H : Hp} {a : Addr} {ns : List Int} (h : IT H a ns) : SqT K H a (ns.map V.int) := .inl h
theorem IT.of {H : Hp} {a : Addr} {ns : List Int} (h : H a = some (.tup (ns.map V.int))) : IT H a ns := .inl h
theorem rd_same {H H' : Hp} {a : Addr} {u : HO} (s : Same H H') (h : Rd H a u) : Rd H' a u := by
  rcases h with h | ⟨o, h⟩
  · exact .inl (s _ _ h)
  · exact .inr ⟨o, s _ _ h⟩
theorem IT.same {H H' : Hp} {a : Addr} {ns : List Int} (s : Same H H') (h : IT H a ns) : IT H' a ns := rd_same s h
theorem PT.same {H H' : Hp} {a : Addr} {ns : List Int} (s : Same H H') (h : PT H a ns) : PT H' a ns := let ⟨o, e, n⟩ := h; ⟨o, s _ _ e, n⟩
theorem IT.some {H : Hp} {a : Addr} {ns : List Int} (h : IT H a ns) : ∃ o, H a = some o := by
  rcases h with h | ⟨o, h⟩
  · exact ⟨_, h⟩
  · exact ⟨_, h⟩
/-- all stands but what is at D -/
def SB (D : Addr) (H H' : Hp) : Prop := ∀ b o, b ≠ D → H b = some o → H' b = some o
theorem IT.sb {D : Addr} {H H' : Hp} {a : Addr} {ns : List Int} (s : SB D H H') (n : a ≠ D) (h : IT H a ns) : IT H' a ns := by
  rcases h with h | ⟨o, h⟩
  · exact .inl (s _ _ n h)
  · exact .inr ⟨o, s _ _ n h⟩
theorem PT.sb {D : Addr} {H H' : Hp} {a : Addr} {ns : List Int} (s : SB D H H') (n : a ≠ D) (h : PT H a ns) : PT H' a ns := let ⟨o, e, d⟩ := h; ⟨o, s _ _ n e, d⟩
theorem map_inj {α : Type} {f : Int → α} (hf : ∀ x y, f x = f y → x = y) : ∀ {a b : List Int}, a.map f = b.map f → a = b
  | [], [], _ => rfl
  | [], _ :: _, h => by simp at h
  | _ :: _, [], h => by simp at h
  | x :: a, y :: b, h => by
    rw [List.map_cons, List.map_cons] at h
    obtain ⟨h1, h2⟩ := List.cons.inj h
    rw [hf _ _ h1, map_inj hf h2]
theorem it_inj {X : Cx} {pins : List (Addr × Obj)} {σ : L2.St} {H : Hp} {s : Shared} (I : Inv X pins σ H s) {a : Addr} {ns ms : List Int} (h : IT H a ns) (h' : IT H a ms) : ns = ms := by
  have e := I.tuple_inj (IT.sq h) (IT.sq h')
  exact map_inj (fun x y z => V.int.inj z) e
section
variable {X : Cx} {es : List Expr} {t : TA} {pos : Pos}
theorem obj_frz {P : Program} {w : World} {H : Hp} {h : Heap} {a : Addr} {o : Obj} {xs : List V} {its : List Value} (e : h.get? a = some o) (hc : o.cls = .type "tuple") (hd : ∃ n, o.data = .seq its.toArray n) (hz : xs.length ≤ sizeLine) (r : Vals xs its) : ObjOk P w H h a (.frz o (.tup xs)) :=
  ⟨e, hz, its, r, o, e, hc, hd⟩
/-- (a, b, ..), known to the object -/
def tTupP (t : TA) : TE := fun σ H Q => t σ H fun xs H1 => xs.length ≤ sizeLine ∧ ∀ (p : Addr) (o : Obj), H1 p = none → o.dict = none → Q (.ref p) (upd H1 p (.frz o (.tup xs)))
theorem pe_tupP {x1} (h : PA X es t) : PE X (.Tuple es x1 pos) (tTupP t) := by
  refine ⟨fun pins s σ H Q I hq => ?_⟩
  refine wpAny_Tuple_spliced (thn (h.run pos pins s σ H _ I hq) fun us s1 ⟨xs, H1, I1, r, z, q⟩ => ⟨by rw [← r.length]; exact z, ?_⟩)
  have hf : H1 s1.heap.objs.size = none := I1.hok.fresh (Nat.le_refl _)
  exact ⟨.ref s1.heap.objs.size, _, I1.laid (t' := s1.toks) (o := .frz { cls := .type "tuple", data := .seq us.toArray } (.tup xs)) (fun b u e => Heap.get?_push_of_some _ e) (Nat.le_refl _) (obj_frz (Heap.get?_push_size _ rfl) rfl ⟨_, rfl⟩ z r), rfl, q _ _ hf rfl⟩
/-- tuple(xs), xs a list, the result known to the object -/
theorem call_tupleP : CallR X (.type "tuple") (fun xs H Q => ∃ p ys, xs = [.ref p] ∧ SqL X.K H p ys ∧ ∀ (l : Addr) (o : Obj), H l = none → o.dict = none → Q (.ref l) (upd H l (.frz o (.tup ys)))) := by
  intro pins s σ H xs us Q I r h
  obtain ⟨p, ys, rfl, hq, q⟩ := h
  obtain ⟨u, rfl, rx⟩ := vals1 r
  cases rx
  obtain ⟨its, r', pl, hz⟩ := I.list hq
  have hlen := r'.length
  refine call_tuple_list pl.isList (fun h' kp => ?_) (by simp only [List.size_toArray]; omega)
  have I1 : Inv X pins σ H { s with heap := h' } := I.kept (t' := s.toks) kp
  exact ⟨.ref h'.objs.size, _, I1.laid (t' := s.toks) (o := .frz { cls := .type "tuple", data := .seq its.toArray } (.tup ys)) (fun b o e => Heap.get?_push_of_some _ e) (Nat.le_refl _) (obj_frz (Heap.get?_push_size _ rfl) rfl ⟨_, rfl⟩ hz r'), rfl, q _ _ (I1.hok.fresh (Nat.le_refl _)) rfl⟩
/-- t + u, the new one known to the object -/
def rCatP (K : PySem.W.Frag) : R2 := fun x y H Q => ∃ a b xs ys, x = .ref a ∧ y = .ref b ∧ SqT K H a xs ∧ SqT K H b ys ∧ xs.length + ys.length ≤ sizeLine ∧
  (xs = [] → Q (.ref b) H) ∧ (xs ≠ [] → ys = [] → Q (.ref a) H) ∧ (xs ≠ [] → ys ≠ [] → ∀ (p : Addr) (o : Obj), H p = none → o.dict = none → Q (.ref p) (upd H p (.frz o (.tup (xs ++ ys)))))
theorem op_catP : OpR X (binaryOp .Add) (rCatP X.K) := by
  intro pins s σ H x y v u Q I rx ry h
  obtain ⟨a, b, xs, ys, rfl, rfl, ha, hb, hz, q0, q1, q2⟩ := h
  cases rx
  cases ry
  obtain ⟨its, r1, p1, _⟩ := I.tuple ha
  obtain ⟨its2, r2, p2, _⟩ := I.tuple hb
  by_cases hx : xs = []
  · subst hx
    cases r1
    exact cat_tup0 p1 p2 ⟨.ref b, H, I, rfl, q0 rfl⟩
  · refine HT.cat_tup p1 p2 (fun z => hx (r1.nil_iff.mp z)) (fun z => ⟨.ref a, H, I, rfl, q1 hx (r2.nil_iff.mp z)⟩) (fun z => ?_) (by rw [← r1.length, ← r2.length]; exact hz)
    exact ⟨.ref s.heap.objs.size, _, I.laid (t' := s.toks) (o := .frz { cls := .type "tuple", data := .seq (its ++ its2).toArray } (.tup (xs ++ ys))) (fun b ob q => Heap.get?_push_of_some _ q) (Nat.le_refl _) (obj_frz (Heap.get?_push_size _ rfl) rfl ⟨_, rfl⟩ (by rw [List.length_append]; exact hz) (r1.append r2)), rfl, q2 hx (fun w => z (r2.nil_iff.mpr w)) _ _ (I.hok.fresh (Nat.le_refl _)) rfl⟩
/-- t.index(k), t known to the object -/
def tIdx (to : TE) (tk : TE) : TE := fun σ H Q => to σ H fun x H1 => ∃ a ns, x = .ref a ∧ PT H1 a ns ∧ tk σ H1 fun y H2 => ∃ k : Int, y = .int k ∧ PT H2 a ns ∧ k ∈ ns ∧ Q (.int (ns.idxOf k : Nat)) H2
theorem pe_idx {o e : Expr} {to tk : TE} {apos cpos : Pos} (ho : PE X o to) (he : PE X e tk) (hbase : attributeBase o "index" X.env (eval o X.env) = eval o X.env := by rfl)
    (hfew : ((backTo cpos (starEach [e] X.env)).all (fun x => !x.1) && (backToKw cpos (keywordEach [] X.env)).all (fun x => x.1.isSome)
      && decide (([e] : List Expr).length + ([] : List Keyword).length + (if ([] : List Keyword).isEmpty then 0 else 1) < 30)) = true := by rfl)
    (hline : (apos.endLine == cpos.line) = true := by rfl) (hs : starEach [e] X.env = (false, eval e X.env) :: starEach [] X.env := by rfl) :
    PE X (.Call (.Attribute o "index" apos) [e] [] cpos) (tIdx to tk) := by
  refine ⟨fun pins s σ H Q I h => ?_⟩
  refine wpAny_Call_method_late hbase hfew hline rfl (thn (ho.run pins s σ H _ I h) fun v s1 ⟨x, H1, I1, r1, a, ns, ex, ⟨ob, hp, hdn⟩, q1⟩ => ?_)
  subst ex
  cases r1
  obtain ⟨e1, z, its, r, ob', e2, hc, n, hd⟩ := (show ObjOk X.prog X.w H1 s1.heap a (.frz ob (.tup (ns.map V.int))) from I1.hok a _ hp)
  rw [e1] at e2
  cases e2
  refine ⟨"tuple", "tuple.index", PySem.F.plainAttrs_tuple, PySem.F.slot_tuple_index, PySem.F.type_tuple_index, ⟨ob, e1, hc⟩, fun b q => by cases q; exact ⟨ob, e1, hdn⟩, ?_⟩
  have hA := (pa_cons he pa_nil hs).run cpos pins s1 σ H1 (fun vs H2 => ∃ k : Int, vs = [.int k] ∧ PT H2 a ns ∧ k ∈ ns ∧ Q (.int (ns.idxOf k : Nat)) H2) I1
    (show tCons tk tNil σ H1 _ from by
      have q2 : tk σ H1 fun y H2 => ∃ k : Int, [y] = [.int k] ∧ PT H2 a ns ∧ k ∈ ns ∧ Q (.int (ns.idxOf k : Nat)) H2 := by
        have e : (fun (y : V) (H2 : Hp) => ∃ k : Int, [y] = [V.int k] ∧ PT H2 a ns ∧ k ∈ ns ∧ Q (.int (ns.idxOf k : Nat)) H2) = fun y H2 => ∃ k : Int, y = .int k ∧ PT H2 a ns ∧ k ∈ ns ∧ Q (.int (ns.idxOf k : Nat)) H2 := by
          funext y H2
          simp
        rw [e]
        exact q1
      exact q2)
  rw [hs] at hA ⊢
  refine Calls.callWith_builtin (by rfl) (Calls.evalArgs_plain ?_)
  refine thn hA fun us s2 ⟨vs, H2, I2, r2, k, ek, ⟨ob2, hp2, _⟩, hk, q2⟩ => ?_
  subst ek
  obtain ⟨u, rfl, t, rfl⟩ := r2.one
  exact mt_indexTI pins s2 σ H2 (.ref a) [.int k] (.ref a) [.int k t] Q I2 rfl (.cons ⟨t, rfl⟩ .nil) ⟨a, ns, k, rfl, rfl, .inl (.inr ⟨ob2, hp2⟩), hk, q2⟩
end

/-! ### dicts whose keys are such tuples, whose values are tuples of ints -/
/-- key, where it stands, where its value stands -/
abbrev X3 := List Int × Addr × Addr
def raw3 (q : X3) : List L2.Key × Addr × Value := (q.1.map Sum.inl, q.2.1, .ref q.2.2)
def XP (P : Program) (w : World) (d : Addr) (q3 : List X3) : Heap → Prop := fun h => (d == sysModules) = false ∧ ∃ o es ep, h.get? d = some o ∧ o.ExactDict ∧ o.data = .dict es ep ∧ es.toList = (q3.map raw3).map (entryOfKey (tupleKind (mixKind P w))) ∧ ((q3.map raw3).map (·.1)).Nodup
def XRel (H : Hp) : List X3 → Tab → Prop := Paired fun q p => q.1 = p.1 ∧ PT H q.2.1 q.1 ∧ IT H q.2.2 p.2
/-- at d stands such a dict with the table m -/
def XT (P : Program) (w : World) (H : Hp) (d : Addr) (m : Tab) : Prop := ∃ q3 : List X3, H d = some (.ext (XP P w d q3)) ∧ q3.length ≤ sizeLine ∧ XRel H q3 m
theorem XRel.len {H : Hp} {q3 : List X3} {m : Tab} (r : XRel H q3 m) : q3.length = m.length := Paired.length r
theorem XRel.same {H H' : Hp} {q3 : List X3} {m : Tab} (s : Same H H') (r : XRel H q3 m) : XRel H' q3 m := Paired.mapP r fun _ _ z => ⟨z.1, z.2.1.same s, z.2.2.same s⟩
theorem XT.same {P : Program} {w : World} {H H' : Hp} {d : Addr} {m : Tab} (s : Same H H') (h : XT P w H d m) : XT P w H' d m := let ⟨q3, e, l, r⟩ := h; ⟨q3, s _ _ e, l, r.same s⟩
theorem XRel.sb {H H' : Hp} {d : Addr} {φ : Heap → Prop} (hd : H d = some (.ext φ)) {q3 : List X3} {m : Tab} (s : SB d H H') (r : XRel H q3 m) : XRel H' q3 m := Paired.mapP r fun _ _ z => by
  refine ⟨z.1, z.2.1.sb s ?_, z.2.2.sb s ?_⟩
  · obtain ⟨o, e, _⟩ := z.2.1
    exact ne_of e hd (fun z => nomatch z)
  · rcases z.2.2 with e | ⟨o, e⟩
    · exact ne_of e hd (fun z => nomatch z)
    · exact ne_of e hd (fun z => nomatch z)
theorem inl_inj {a b : List Int} : a.map (Sum.inl (β := Str)) = b.map Sum.inl ↔ a = b :=
  ⟨fun h => map_inj (fun x y z => Sum.inl.inj z) h, fun h => by rw [h]⟩
theorem x_find {H : Hp} {k : List Int} : ∀ {q3 : List X3} {m : Tab}, XRel H q3 m → (lookM m k = none ∧ atKey (q3.map raw3) (k.map Sum.inl) = none) ∨
    ∃ w b v, lookM m k = some w ∧ atKey (q3.map raw3) (k.map Sum.inl) = some (b, .ref v) ∧ PT H b k ∧ IT H v w
  | _, _, .nil => .inl ⟨rfl, rfl⟩
  | q :: q3, p :: m, .cons h t => by
    by_cases e : p.1 = k
    · refine .inr ⟨p.2, q.2.1, q.2.2, ?_, ?_, ?_, h.2.2⟩
      · unfold lookM
        rw [List.find?_cons_of_pos (by simp [e])]
        rfl
      · unfold atKey
        rw [List.map_cons, List.find?_cons_of_pos (by simp [raw3, h.1, e])]
        rfl
      · rw [← e, ← h.1]
        exact h.2.1
    · have e1 : lookM (p :: m) k = lookM m k := by
        unfold lookM
        rw [List.find?_cons_of_neg (by simp [e])]
      have e2 : atKey ((q :: q3).map raw3) (k.map Sum.inl) = atKey (q3.map raw3) (k.map Sum.inl) := by
        unfold atKey
        have hno : ¬ (raw3 q).1 = k.map Sum.inl := fun hh => e (h.1.symm.trans (inl_inj.mp hh))
        rw [List.map_cons, List.find?_cons_of_neg (by simpa using hno)]
      rw [e1, e2]
      exact x_find t
/-- as stored -/
def put3 (q3 : List X3) (k : List Int) (b v : Addr) (old : Bool) : List X3 := if old then q3.map (fun q => if q.1 = k then (q.1, q.2.1, v) else q) else q3 ++ [(k, b, v)]
theorem x_any {H : Hp} {k : List Int} {q3 : List X3} {m : Tab} (r : XRel H q3 m) : (m.any fun p => decide (p.1 = k)) = (atKey (q3.map raw3) (k.map Sum.inl)).isSome := by
  have z := x_find (k := k) r
  have e : (m.any fun p => decide (p.1 = k)) = (lookM m k).isSome := by
    unfold lookM
    rw [Option.isSome_map, Bool.eq_iff_iff, List.find?_isSome, List.any_eq_true]
  rw [e]
  rcases z with ⟨h1, h2⟩ | ⟨w, b, v, h1, h2, _⟩ <;> rw [h1, h2] <;> rfl
theorem x_store {H : Hp} {k : List Int} {b v : Addr} {w : List Int} {q3 : List X3} {m : Tab} (r : XRel H q3 m) (hb : PT H b k) (hv : IT H v w) : ∃ q3', q3'.map raw3 = storedH (q3.map raw3) (k.map Sum.inl) b (.ref v) ∧ XRel H q3' (putM m k w) ∧ q3'.length ≤ q3.length + 1 := by
  refine ⟨put3 q3 k b v (m.any fun p => decide (p.1 = k)), ?_, ?_, ?_⟩
  · unfold put3 storedH
    rw [x_any r]
    by_cases h : (atKey (q3.map raw3) (k.map Sum.inl)).isSome = true
    · rw [if_pos h, if_pos h, List.map_map, List.map_map]
      apply List.map_congr_left
      intro q _
      simp only [Function.comp, putAt, raw3, inl_inj]
      by_cases e : q.1 = k <;> simp [e]
    · rw [if_neg h, if_neg h, List.map_append]
      rfl
  · unfold put3 putM
    by_cases h : (m.any fun p => decide (p.1 = k)) = true
    · rw [if_pos h, if_pos h]
      clear h
      induction r with
      | nil => exact .nil
      | @cons q p l1 l2 h t ih =>
        refine .cons ?_ ih
        by_cases e : p.1 = k
        · have e' : q.1 = k := h.1.trans e
          simp only [e, e', if_true]
          exact ⟨trivial, by rw [← e']; exact h.2.1, hv⟩
        · have e' : ¬ q.1 = k := by rw [h.1]; exact e
          simp only [e, e', if_false]
          exact h
    · rw [if_neg h, if_neg h]
      exact paired_snoc r ⟨rfl, hb, hv⟩
  · unfold put3
    split <;> simp
theorem x_merge {H : Hp} : ∀ {r3 : List X3} {l : Tab} {q3 : List X3} {m : Tab}, XRel H q3 m → XRel H r3 l → ∃ q', q'.map raw3 = storedAllH (q3.map raw3) (r3.map raw3) ∧ XRel H q' (mergeM m l) ∧ q'.length ≤ q3.length + r3.length
  | _, _, q3, m, r, .nil => ⟨q3, rfl, r, Nat.le_refl _⟩
  | q :: r3, p :: l, q3, m, r, .cons h t => by
    obtain ⟨q1, e1, r1, l1⟩ := x_store r h.2.1 h.2.2
    obtain ⟨q2, e2, r2, l2⟩ := x_merge r1 t
    refine ⟨q2, ?_, ?_, by simp; omega⟩
    · rw [e2, e1]
      rfl
    · show XRel H q2 (mergeM (putM m p.1 p.2) l)
      rw [← h.1]
      exact r2
theorem key3 {X : Cx} {pins : List (Addr × Obj)} {σ : L2.St} {H : Hp} {s : Shared} (I : Inv X pins σ H s) {b : Addr} {k : List Int} (h : IT H b k) : (tupleKind (mixKind X.prog X.w)).is s.heap (k.map Sum.inl) b := by
  obtain ⟨_, its, r, o, h1, h2, n, h3⟩ := (show ObjOk X.prog X.w H s.heap b (.tup (k.map V.int)) from h.ok I.hok)
  have e : k.map V.int = (k.map (Sum.inl (β := Str))).map kV := by rw [List.map_map]; rfl
  rw [e] at r
  exact ⟨o, its.toArray, n, h1, h2, h3, by simpa using items_are r⟩
theorem x_of {X : Cx} {pins : List (Addr × Obj)} {σ : L2.St} {H : Hp} {s : Shared} (I : Inv X pins σ H s) {d : Addr} {q3 : List X3} {m : Tab} (h : H d = some (.ext (XP X.prog X.w d q3))) (r : XRel H q3 m) : (d == sysModules) = false ∧ s.heap.DictOfH (tupleKind (mixKind X.prog X.w)) d (q3.map raw3) := by
  obtain ⟨⟨hs, o, es, ep, h1, h2, h3, h4, h5⟩, _, _⟩ := (show ObjOk X.prog X.w H s.heap d (.ext (XP X.prog X.w d q3)) from I.hok d _ h)
  refine ⟨hs, o, es, ep, h1, h2, h3, h4, fun x hx => ?_, h5⟩
  obtain ⟨q, hq, rfl⟩ := List.mem_map.mp hx
  have go : ∀ {q3 : List X3} {m : Tab}, XRel H q3 m → ∀ q ∈ q3, PT H q.2.1 q.1 := by
    intro q3 m r
    induction r with
    | nil => intro q hq; exact nomatch hq
    | cons h t ih =>
      intro q hq
      rcases List.mem_cons.mp hq with z | hq
      · rw [z]; exact h.2.1
      · exact ih q hq
  exact key3 I (go r q hq).it
/-- such a dict in a heap -/
theorem x_obj {P : Program} {w : World} {H : Hp} {h : Heap} {d : Addr} {q3 : List X3} (hs : (d == sysModules) = false) (hd : h.DictOfH (tupleKind (mixKind P w)) d (q3.map raw3)) : ObjOk P w H h d (.ext (XP P w d q3)) := by
  obtain ⟨o, es, ep, h1, h2, h3, h4, _, h5⟩ := hd
  refine ⟨⟨hs, o, es, ep, h1, h2, h3, h4, h5⟩, ⟨o, h1⟩, fun g1 g2 φ k => ?_⟩
  obtain ⟨z, o', es', ep', a1, a2, a3, a4, a5⟩ := φ
  exact ⟨z, o', es', ep', k o' a1, a2, a3, a4, a5⟩
end K31

set_option Elab.async false
set_option linter.all false
set_option maxRecDepth 100000
set_option maxHeartbeats 4000000
namespace K31
open PySem PySem.Spec PyProof.Rows L2
/-! ### rules of my own, 8: what is done with such dicts -/
section
variable {X : Cx} {o i e f value : Expr} {to ti te tv tx : TE} {pos pos' apos cpos : Pos}
theorem x_type {pins : List (Addr × Obj)} {σ : L2.St} {H : Hp} {s : Shared} (I : Inv X pins σ H s) {d : Addr} {m : Tab} (h : XT X.prog X.w H d m) : s.TypeIs (.ref d) "dict" ∧ (∀ b, Value.ref d = .ref b → ∃ ob, s.heap.get? b = some ob ∧ ob.dict = none) := by
  obtain ⟨q3, e, _, r⟩ := h
  obtain ⟨_, ob, es, ep, h1, h2, _⟩ := x_of I e r
  exact ⟨⟨ob, h1, h2.1⟩, fun b z => by cases z; exact ⟨ob, h1, h2.2.1⟩⟩
theorem x_room (hu : X.A.units + 1 < cLine) : (tupleKind (mixKind X.prog X.w)).room X.A.in1 := tupleKind_room_in1 hu
/-- {} -/
def tXNew (P : Program) (w : World) : TE := fun _ H Q => ∀ p H', H p = none → Same H H' → XT P w H' p [] → Q (.ref p) H'
theorem same_upd' {H : Hp} {p : Addr} {ob : HO} (h : H p = none) : Same H (upd H p ob) := fun b u e => by
  rw [upd_ne (ne_of_none e h)]
  exact e
theorem pe_xnew : PE X (.Dict [] [] pos) (tXNew X.prog X.w) := ⟨fun pins s σ H Q I h => by
  have hf : H s.heap.objs.size = none := I.hok.fresh (Nat.le_refl _)
  refine wpAny_Dict_empty ⟨.ref s.heap.objs.size, _, I.laid (a := s.heap.objs.size) (o := .ext (XP X.prog X.w s.heap.objs.size [])) (t' := s.toks) (fun _ _ q => Heap.get?_push_of_some _ q) (Nat.le_refl _) ?_, rfl, h _ _ hf (same_upd' hf) ⟨[], upd_same, Nat.zero_le _, .nil⟩⟩
  exact x_obj (beq_eq_false_iff_ne.mpr (Ne.symm (Nat.ne_of_lt I.big))) (Heap.DictOfH.new s.heap)⟩
theorem x_written {pins : List (Addr × Obj)} {σ : L2.St} {H : Hp} {s : Shared} {h' : Heap} {t' : Nat} (I : Inv X pins σ H s) {d : Addr} {q3 q' : List X3} (e : H d = some (.ext (XP X.prog X.w d q3))) (hd : (d == sysModules) = false) (hs : Heap.SameBut d s.heap h') (dd : h'.DictOfH (tupleKind (mixKind X.prog X.w)) d (q'.map raw3)) :
    Inv X pins σ (upd H d (.ext (XP X.prog X.w d q'))) { s with heap := h', toks := t' } := by
  obtain ⟨q, _, _, hq, _⟩ := id dd
  exact d_write (ob := .ext (XP X.prog X.w d q')) I (by rw [e]; exact True.intro) hs ⟨q, hq⟩ (x_obj hd dd)
theorem sb_upd {D : Addr} {H : Hp} {ob : HO} : SB D H (upd H D ob) := fun c u n e => by
  rw [upd_ne n]
  exact e
/-- d[k] = v -/
def sXPut (P : Program) (w : World) (to ti tv : TE) : TS := fun D σ H => tv σ H fun v H1 => to σ H1 fun x H2 => ti σ H2 fun y H3 => ∃ d b va k wv m, v = .ref va ∧ x = .ref d ∧ y = .ref b ∧ XT P w H3 d m ∧ PT H3 b k ∧ IT H3 va wv ∧ m.length < sizeLine ∧
  ∀ H', SB d H3 H' → XT P w H' d (putM m k wv) → D.nx σ H'
theorem ps_xput (hu : X.A.units + 1 < cLine) (ho : PE X o to) (hi : PE X i ti) (hv : PE X value tv) (hs : swapsWith value (some (.Subscript o i pos')) pos.line X.env = pure false := by rfl) :
    PS X (.Assign [.Subscript o i pos'] value pos) (sXPut X.prog X.w to ti tv) := by
  refine ⟨fun pins s σ H D I h => ?_⟩
  refine wpAny_Assign_Subscript (thn (hv.run pins s σ H _ I h) fun r s1 ⟨v, H1, I1, rv, q1⟩ => thn (ho.run pins s1 σ H1 _ I1 q1) fun u s2 ⟨x, H2, I2, rx, q2⟩ => thn (hi.run pins s2 σ H2 _ I2 q2) fun iv s3 ⟨y, H3, I3, ry, d, b, va, k, wv, m, ev, ex, ey, hx, hb, hva, hl, q3⟩ => ?_) hs
  subst ev ex ey
  cases rv
  cases rx
  cases ry
  obtain ⟨q, e, l, r⟩ := hx
  obtain ⟨hd, dd⟩ := x_of I3 e r
  have hlen := r.len
  obtain ⟨q', e1, r1, l1⟩ := x_store r hb hva
  refine wpAny_setItem_heap (hsz := by rw [List.length_map]; exact l) (x_room hu) (key3 I3 hb.it) dd fun h' dd' hs' => ?_
  rw [← e1] at dd'
  exact ⟨σ, _, x_written I3 e hd hs' dd', q3 _ sb_upd ⟨q', upd_same, by omega, r1.sb e sb_upd⟩⟩
/-- d[k] -/
def tXGet (P : Program) (w : World) (to ti : TE) : TE := fun σ H Q => to σ H fun x H1 => ti σ H1 fun y H2 => ∃ d b m k wv, x = .ref d ∧ y = .ref b ∧ XT P w H2 d m ∧ IT H2 b k ∧ lookM m k = some wv ∧ ∀ v, IT H2 v wv → Q (.ref v) H2
theorem pe_xget (hu : X.A.units + 1 < cLine) (ho : PE X o to) (hi : PE X i ti) (hs : NoSl i) : PE X (.Subscript o i pos) (tXGet X.prog X.w to ti) := by
  refine ⟨fun pins s σ H Q I h => ?_⟩
  refine subD_of PySem.F.slot_dict_getitem.lookup hs (thn (ho.run pins s σ H _ I h) fun u s1 ⟨x, H1, I1, rx, q1⟩ => thn (hi.run pins s1 σ H1 _ I1 q1) fun iv s2 ⟨y, H2, I2, ry, d, b, m, k, wv, ex, ey, hx, hb, hl, q2⟩ => ?_)
  subst ex ey
  cases rx
  cases ry
  refine ⟨(x_type I2 hx).1, ?_⟩
  obtain ⟨q, e, l, r⟩ := hx
  obtain ⟨hd, dd⟩ := x_of I2 e r
  rcases x_find (k := k) r with ⟨h1, _⟩ | ⟨w', b', v, h1, h2, _, h4⟩
  · rw [h1] at hl
    cases hl
  · rw [h1] at hl
    cases hl
    exact wpAny_getItem_heap (x_room hu) (key3 I2 hb) dd h2 ⟨.ref v, H2, I2.tok _, rfl, q2 v h4⟩
/-- k in d, k not in d -/
def tXIn (P : Program) (w : World) (g : Bool → Bool) (ti to : TE) : TE := fun σ H Q => ti σ H fun y H1 => to σ H1 fun x H2 => ∃ d b m k, x = .ref d ∧ y = .ref b ∧ XT P w H2 d m ∧ IT H2 b k ∧ Q (.bl (g (lookM m k).isSome)) H2
theorem x_isSome {H : Hp} {q3 : List X3} {m : Tab} (r : XRel H q3 m) (k : List Int) : (atKey (q3.map raw3) (k.map Sum.inl)).isSome = (lookM m k).isSome := by
  rcases x_find (k := k) r with ⟨h1, h2⟩ | ⟨w', b', v, h1, h2, _⟩ <;> rw [h1, h2] <;> rfl
theorem pc_xin (hu : X.A.units + 1 < cLine) (hi : PE X i ti) (ho : PE X o to) : PC X .In i o (tXIn X.prog X.w id ti to) := by
  refine ⟨fun pins s σ H Q I h => ?_⟩
  refine thn (hi.run pins s σ H _ I h) fun iv s1 ⟨y, H1, I1, ry, q1⟩ => thn (ho.run pins s1 σ H1 _ I1 q1) fun u s2 ⟨x, H2, I2, rx, d, b, m, k, ex, ey, hx, hb, q2⟩ => ?_
  subst ex ey
  cases rx
  cases ry
  obtain ⟨q, e, l, r⟩ := hx
  obtain ⟨hd, dd⟩ := x_of I2 e r
  refine wpAny_in_heap (x_room hu) (key3 I2 hb) hd dd ?_
  rw [x_isSome r]
  exact ⟨.bl _, H2, I2.tok _, rfl, q2⟩
theorem pc_xnotin (hu : X.A.units + 1 < cLine) (hi : PE X i ti) (ho : PE X o to) : PC X .NotIn i o (tXIn X.prog X.w not ti to) := by
  refine ⟨fun pins s σ H Q I h => ?_⟩
  refine thn (hi.run pins s σ H _ I h) fun iv s1 ⟨y, H1, I1, ry, q1⟩ => thn (ho.run pins s1 σ H1 _ I1 q1) fun u s2 ⟨x, H2, I2, rx, d, b, m, k, ex, ey, hx, hb, q2⟩ => ?_
  subst ex ey
  cases rx
  cases ry
  obtain ⟨q, e, l, r⟩ := hx
  obtain ⟨hd, dd⟩ := x_of I2 e r
  refine wpAny_notIn_heap (x_room hu) (key3 I2 hb) hd dd ?_
  rw [x_isSome r]
  exact ⟨.bl _, H2, I2.tok _, rfl, q2⟩
/-- d.get(k, x) -/
def tXGet2 (P : Program) (w : World) (to te tx : TE) : TE := fun σ H Q => to σ H fun x H1 => ∃ d m0, x = .ref d ∧ XT P w H1 d m0 ∧ te σ H1 fun y H2 => tx σ H2 fun z H3 => ∃ b dv m k dw, y = .ref b ∧ z = .ref dv ∧ XT P w H3 d m ∧ IT H3 b k ∧ IT H3 dv dw ∧ ∀ v, IT H3 v ((lookM m k).getD dw) → Q (.ref v) H3
theorem pe_xget2 (hu : X.A.units + 1 < cLine) (ho : PE X o to) (he : PE X e te) (hf : PE X f tx) (m : M2 X o "get" apos e f cpos) : PE X (.Call (.Attribute o "get" apos) [e, f] [] cpos) (tXGet2 X.prog X.w to te tx) := by
  refine ⟨fun pins s σ H Q I h => ?_⟩
  refine wpAny_Call_method m.base m.few m.line PySem.F.plainAttrs_dict PySem.F.slot_dict_get PySem.F.type_dict_get (thn (ho.run pins s σ H _ I h) fun u s1 ⟨x, H1, I1, rx, d, m0, ex, hx0, q1⟩ => ?_)
  subst ex
  cases rx
  obtain ⟨t1, t2⟩ := x_type I1 hx0
  refine ⟨t1, t2, ?_⟩
  rw [m.trees]
  refine Calls.callWith_builtin rfl (Calls.evalArgs_plain (Calls.spliced_cons (thn (he.run pins s1 σ H1 _ I1 q1) fun iv s2 ⟨y, H2, I2, ry, q2⟩ =>
    Calls.spliced_cons (thn (hf.run pins s2 σ H2 _ I2 q2) fun fv s3 ⟨z, H3, I3, rz, b, dv, m1, k, dw, ey, ez, hx, hb, hdv, q3⟩ => Calls.spliced_nil ?_))))
  subst ey ez
  cases ry
  cases rz
  obtain ⟨q, e1, l, r⟩ := hx
  obtain ⟨hd, dd⟩ := x_of I3 e1 r
  rcases x_find (k := k) r with ⟨h1, h2⟩ | ⟨w', b', v, h1, h2, _, h4⟩
  · refine call_meetsIn PySem.F.slot_dict_get dd.typeIs PySem.F.entry_dict_get (PySem.F.args_dict_get_3 _ _ _) (meetsH_dict_get_default (tupleKind (mixKind X.prog X.w)) d b hd (.ref dv)) ⟨x_room hu, k.map Sum.inl, q.map raw3, key3 I3 hb, dd, ?_⟩
    rw [h2]
    exact ⟨.ref dv, H3, I3.tok _, rfl, q3 dv (by rw [h1]; exact hdv)⟩
  · refine call_meetsIn PySem.F.slot_dict_get dd.typeIs PySem.F.entry_dict_get (PySem.F.args_dict_get_3 _ _ _) (meetsH_dict_get_default (tupleKind (mixKind X.prog X.w)) d b hd (.ref dv)) ⟨x_room hu, k.map Sum.inl, q.map raw3, key3 I3 hb, dd, ?_⟩
    rw [h2]
    exact ⟨.ref v, H3, I3.tok _, rfl, q3 v (by rw [h1]; exact h4)⟩
/-- d.update(e), d not empty -/
def tXUpd (P : Program) (w : World) (to te : TE) : TE := fun σ H Q => to σ H fun x H1 => ∃ d m0, x = .ref d ∧ XT P w H1 d m0 ∧ te σ H1 fun y H2 => ∃ b m l, y = .ref b ∧ d ≠ b ∧ XT P w H2 d m ∧ XT P w H2 b l ∧ m ≠ [] ∧ m.length + l.length ≤ sizeLine ∧
  ∀ H', SB d H2 H' → XT P w H' d (mergeM m l) → Q .non H'
theorem pe_xupd (hu : X.A.units + 1 < cLine) (ho : PE X o to) (he : PE X e te) (m : M1 X o "update" apos e cpos) : PE X (.Call (.Attribute o "update" apos) [e] [] cpos) (tXUpd X.prog X.w to te) := by
  refine ⟨fun pins s σ H Q I h => ?_⟩
  refine wpAny_Call_method m.base m.few m.line PySem.F.plainAttrs_dict PySem.F.slot_dict_update PySem.F.type_dict_update (thn (ho.run pins s σ H _ I h) fun u s1 ⟨x, H1, I1, rx, d, m0, ex, hx0, q1⟩ => ?_)
  subst ex
  cases rx
  obtain ⟨t1, t2⟩ := x_type I1 hx0
  refine ⟨t1, t2, ?_⟩
  rw [m.trees]
  refine Calls.callWith_builtin rfl (Calls.evalArgs_plain (Calls.spliced_cons (thn (he.run pins s1 σ H1 _ I1 q1) fun iv s2 ⟨y, H2, I2, ry, b, m1, l1, ey, hne, hx, hy, hm, hz, q2⟩ => Calls.spliced_nil ?_)))
  subst ey
  cases ry
  obtain ⟨q, e1, z1, r⟩ := hx
  obtain ⟨p, e2, z2, r'⟩ := hy
  obtain ⟨hd, dd⟩ := x_of I2 e1 r
  obtain ⟨hd2, dd2⟩ := x_of I2 e2 r'
  have hl := r.len
  have hl' := r'.len
  obtain ⟨q', e3, r3, l3⟩ := x_merge r r'
  refine PySem.call_update_dictH (x_room hu) hne hd2 dd dd2 (.inl fun z => hm ?_) (by rw [List.length_map, List.length_map]; omega) fun h' dd' _ hs' => ?_
  · have z3 := congrArg List.length z
    rw [List.length_map, hl] at z3
    exact List.length_eq_zero_iff.mp z3
  rw [← e3] at dd'
  exact ⟨.non, _, x_written (t' := s2.toks) I2 e1 hd hs' dd', rfl, q2 _ sb_upd ⟨q', upd_same, by omega, r3.sb e1 sb_upd⟩⟩
/-- len(d) -/
theorem call_xlen : CallR X (.builtin "len") (fun xs H Q => ∃ d m, xs = [V.ref d] ∧ XT X.prog X.w H d m ∧ Q (.int (m.length : Nat)) H) := by
  intro pins s σ H xs us Q I r h
  obtain ⟨d, m, rfl, hx, q⟩ := h
  obtain ⟨u, rfl, rx⟩ := vals1 r
  cases rx
  obtain ⟨q3, e, z, rl⟩ := hx
  obtain ⟨hd, dd⟩ := x_of I e rl
  have hl := rl.len
  refine call_len_dictH hd dd (by rw [List.length_map]; rw [sizeLine_eq] at z; omega) ?_
  rw [List.length_map, hl]
  exact ⟨.int (m.length : Nat), H, I.tok _, ⟨_, rfl⟩, q⟩
/-- the places of the keys -/
def XKeys (H : Hp) (m : Tab) (bs : List TB) : Prop := bs.map (·.2) = keysM m ∧ ∀ b ∈ bs, PT H b.1 b.2
theorem x_keys {H : Hp} : ∀ {q3 : List X3} {m : Tab}, XRel H q3 m → XKeys H m (q3.map fun q => (q.2.1, q.1))
  | _, _, .nil => ⟨rfl, fun _ h => nomatch h⟩
  | q :: q3, p :: m, .cons h t => by
    obtain ⟨h1, h2⟩ := x_keys t
    refine ⟨?_, fun b hb => ?_⟩
    · show q.1 :: _ = p.1 :: keysM m
      rw [h.1, ← h1]
    · rcases List.mem_cons.mp hb with z | hb
      · rw [z]; exact h.2.1
      · exact h2 b hb
theorem x_collected {es : Array DictEntry} {q3 : List X3} {acc : Array Value} {P : Program} {w : World} (he : es.toList = (q3.map raw3).map (entryOfKey (tupleKind (mixKind P w))))
    (hn : acc.size = es.size) (hi : ∀ (j : Nat) (v : Value), acc[j]? = some v → ∃ en : DictEntry, es[j]? = some en ∧ v = en.key) : acc.toList = (q3.map fun q => ((q.2.1, q.1) : TB)).map fun b => Value.ref b.1 := by
  rw [items_keys he hn hi, List.map_map, List.map_map, List.map_map]
  rfl
/-- list(d) -/
theorem call_xlist (hc : X.calm = true) : CallR X (.type "list") (fun xs H Q => ∃ d m, xs = [V.ref d] ∧ XT X.prog X.w H d m ∧ ∀ p bs, H p = none → XKeys H m bs → Q (.ref p) (upd H p (.lst (bs.map fun b => V.ref b.1)))) := by
  intro pins s σ H xs us Q I r h
  obtain ⟨d, m, rfl, hx, q⟩ := h
  obtain ⟨u, rfl, rx⟩ := vals1 r
  cases rx
  obtain ⟨q3, e, z, rl⟩ := hx
  obtain ⟨hd, ob, es, ep, h1, h2, h3, h4, _⟩ := x_of I e rl
  have l1 : es.size = (q3.map raw3).length := size_of_entries h4
  rw [List.length_map] at l1
  refine PySem.W.kdl_call (kdl_raw hd h2 h3) (I.ok.hd hc) h1 (by omega) fun h' tk acc' c' kp e2 it => ?_
  have ea := x_collected h4 it.1 it.2
  have hz : ((q3.map fun q => ((q.2.1, q.1) : TB)).map fun b => V.ref b.1).length ≤ sizeLine := by rw [List.length_map, List.length_map]; exact z
  refine ⟨.ref s.heap.objs.size, _, I.laid (t' := tk) (o := .lst ((q3.map fun q => ((q.2.1, q.1) : TB)).map fun b => V.ref b.1)) kp (Nat.le_refl _) ⟨hz, acc'.toList, c', ?_, by rw [Array.toArray_toList]; exact e2⟩, rfl, q _ _ (I.hok.fresh (Nat.le_refl _)) (x_keys rl)⟩
  rw [ea]
  exact vals_tb' _
/-- dict([(k, v), ..]) -/
structure Pr3 where
  at_ : Addr
  key : Addr
  ks : List Int
  val : Addr
  ws : List Int
def Pr3Ok (H : Hp) (q : Pr3) : Prop := H q.at_ = some (.tup [.ref q.key, .ref q.val]) ∧ PT H q.key q.ks ∧ IT H q.val q.ws
theorem x_pairs {H : Hp} : ∀ {qs : List Pr3}, (∀ q ∈ qs, Pr3Ok H q) → XRel H (qs.map fun q => (q.ks, q.key, q.val)) (qs.map fun q => (q.ks, q.ws))
  | [], _ => .nil
  | q :: qs, h => .cons ⟨rfl, (h q (by simp)).2.1, (h q (by simp)).2.2⟩ (x_pairs fun c hc => h c (by simp [hc]))
theorem cr_xdict (hc : X.calm = true) (hu : X.A.units + 3 < cLine) : CallR X (.type "dict") (fun vs H Q => ∃ (a : Addr) (qs : List Pr3), vs = [V.ref a] ∧ SqL X.K H a (qs.map fun q => V.ref q.at_) ∧ (∀ q ∈ qs, Pr3Ok H q) ∧
    ∀ p H', H p = none → Same H H' → XT X.prog X.w H' p (mergeM [] (qs.map fun q => (q.ks, q.ws))) → Q (.ref p) H') := by
  intro pins s σ H vs us Q I r h
  obtain ⟨a, qs, rfl, hs, hq, q⟩ := h
  obtain ⟨its, rv, ⟨o, n, ho, hcl, hdn, hdt⟩, hz⟩ := I.list hs
  obtain ⟨u, rfl, ru⟩ := vals1 r
  cases ru
  rw [List.length_map] at hz
  have hil := rv.length
  rw [List.length_map] at hil
  have rel := x_pairs hq
  obtain ⟨rs, hrs⟩ : ∃ rs : List (List L2.Key × Addr × Value), rs = (qs.map fun q => ((q.ks, q.key, q.val) : X3)).map raw3 := ⟨_, rfl⟩
  have l : rs.length = qs.length := by rw [hrs, List.length_map, List.length_map]
  have rat : ∀ (j : Nat) (q : Pr3), qs[j]? = some q → rs[j]? = some (raw3 (q.ks, q.key, q.val)) := fun j q e => by
    rw [hrs, List.getElem?_map, List.getElem?_map, e]
    rfl
  have P := PairArg.list (prog := X.prog) (w := X.w) a its.toArray (fun j => ((qs[j]?).map Pr3.at_).getD 0) (rs.map fun r => (Value.ref r.2.1, r.2.2))
  refine call_dict_pairsH (knd := tupleKind (mixKind X.prog X.w)) (ps := rs) P (I.ok.hd hc) (show X.A.units + 2 < cLine by omega) ⟨⟨o, n, ho, hcl, hdn, hdt⟩, by simp; omega, fun j k v e => ?_⟩ ⟨by simp, fun i key v e => ?_⟩ (fun h' hk x hx => ?_) (by simp; omega) fun h' tk hd' hk => ?_
  · rw [List.getElem?_map] at e
    cases eq : qs[j]? with
    | none =>
      rw [List.getElem?_eq_none (by have := List.getElem?_eq_none_iff.mp eq; omega)] at e
      cases e
    | some q0 =>
      rw [rat j q0 eq] at e
      obtain ⟨rfl, rfl⟩ := Prod.mk.inj (Option.some.inj e)
      obtain ⟨u, hu1, hu2⟩ := rv.get (i := j) (x := V.ref q0.at_) (by rw [List.getElem?_map, eq]; rfl)
      cases hu2
      obtain ⟨h1, h2, h3⟩ := hq q0 (List.mem_of_getElem? eq)
      obtain ⟨_, its2, rv2, ob, g1, g2, n2, g3⟩ := I.hok _ _ h1
      obtain ⟨u1, u2, rfl, r1, r2⟩ := vals2 rv2
      cases r1
      cases r2
      refine ⟨by simpa [eq] using hu1, ?_⟩
      show PairAt s.heap ((Option.map Pr3.at_ qs[j]?).getD 0) _ _
      rw [eq]
      exact .inl ⟨ob, g1, g2, n2, g3⟩
  · have e1 : (rs.map fun r => (Value.ref r.2.1, r.2.2))[i]? = some (key, v) := e
    rw [List.getElem?_map] at e1
    cases er : rs[i]? with
    | none => rw [er] at e1; simp at e1
    | some r =>
      rw [er] at e1
      obtain ⟨rfl, rfl⟩ := Prod.mk.inj (Option.some.inj e1)
      exact ⟨r.1, r.2.1, rfl, rfl⟩
  · have old : ∀ b o, b ∉ ([] : List Addr) → s.heap.get? b = some o → h'.get? b = some o := fun b o _ e => hk b o (Nat.ne_of_lt (Heap.lt_size e)) (fun z => nomatch z) e
    refine (tupleKind_stays (knd := mixKind X.prog X.w)).all h' old x.1 x.2.1 ?_
    rw [hrs] at hx
    obtain ⟨y, hy, rfl⟩ := List.mem_map.mp hx
    obtain ⟨q0, hq0, rfl⟩ := List.mem_map.mp hy
    exact key3 I (hq q0 hq0).2.1.it
  · have old : ∀ b u, s.heap.get? b = some u → h'.get? b = some u := fun b u e => hk b u (fun z => nomatch z) e
    have hf := I.hok.fresh (Nat.le_refl s.heap.objs.size)
    obtain ⟨q', e3, r3, l3⟩ := x_merge (H := H) (q3 := []) (m := []) .nil rel
    rw [hrs] at hd'
    rw [show storedAllH [] ((qs.map fun q => ((q.ks, q.key, q.val) : X3)).map raw3) = q'.map raw3 from e3.symm] at hd'
    refine ⟨.ref s.heap.objs.size, _, I.laid (t' := tk) (o := .ext (XP X.prog X.w s.heap.objs.size q')) old (Nat.le_refl _) (x_obj (beq_eq_false_iff_ne.mpr (Ne.symm (Nat.ne_of_lt I.big))) hd'), rfl, q _ _ hf (same_upd' hf) ⟨q', upd_same, ?_, r3.same (same_upd' hf)⟩⟩
    simp only [List.length_nil, Nat.zero_add, List.length_map] at l3
    omega
end
end K31

set_option Elab.async false
set_option linter.all false
set_option maxRecDepth 100000
set_option maxHeartbeats 4000000
namespace K31
open PySem PySem.Spec PyProof.Rows L2
/-! ### rules of my own, 9: sorted(d, key=f), d such a dict, f of the program -/
theorem collect_x {X : Cx} {pins : List (Addr × Obj)} {s : Shared} {σ : L2.St} {H : Hp} {d : Addr} {m : Tab} {A : Around} {E : Value → Shared → Prop} {R : List Value → Shared → Prop} (I : Inv X pins σ H s) (hA : A.handled = none) (hx : XT X.prog X.w H d m)
    (h : ∀ h' tk (bs : List TB), (∀ b o, s.heap.get? b = some o → h'.get? b = some o) → XKeys H m bs → bs.length = m.length → bs.length ≤ sizeLine → R (bs.map fun b => Value.ref b.1) { s with heap := h', toks := tk }) :
    wpAny (model X.prog X.w) A (collect (.ref d)) R E s := by
  obtain ⟨q3, e, z, rl⟩ := hx
  obtain ⟨hd, ob, es, ep, h1, h2, h3, h4, _⟩ := x_of I e rl
  have l1 : es.size = (q3.map raw3).length := size_of_entries h4
  rw [List.length_map] at l1
  refine PySem.W.kdu_collect (kdl_raw hd h2 h3) hA h1 (by omega) fun h' tk acc kp it => ?_
  rw [x_collected h4 it.1 it.2]
  have hk := x_keys rl
  exact h h' tk _ kp hk (by rw [List.length_map]; exact rl.len) (by rw [List.length_map]; exact z)
section
variable {X : Cx} {k : Nat} {f : Addr} {fd : FuncData} {ps : List Str} {sp : Sp}
/-- sorted(d, key=f), d a dict with keys of ints, f giving (sum, key): a rearrangement of the keys, in a new list -/
theorem cr_sortedKX (hc : X.calm = true) (hr : Room (k + 2) X.A) (F : FnOk X.prog X.w X.K X.mg X.base CX0 k f fd ps sp) (hb : Binds X.K fd ps [])
    (hsp : ∀ (b : TB) (H : Hp) (Q : VK), IT H b.1 b.2 → (∀ t H', Same H H' → H' t = some (.tup [.int b.2.sum, .ref b.1]) → Q (.ref t) H') → sp [.ref b.1] H Q E0) :
    CallRK X (.builtin "sorted") [Str.ofString "key"] (fun vs zs H Q => ∃ (d : Addr) (m : Tab), vs = [V.ref d] ∧ zs = [V.ref f] ∧ XT X.prog X.w H d m ∧
      ∀ (H' : Hp) (vs' : List V) p, Same H H' → vs'.length = m.length → H' p = some (.lst vs') → Q (.ref p) H') := by
  intro pins s σ H vs zs us ws Q I r rz h
  obtain ⟨d, m, rfl, rfl, hx, q⟩ := h
  obtain ⟨u, rfl, ru⟩ := vals1 r
  obtain ⟨uf, rfl, ruf⟩ := vals1 rz
  cases ru
  cases ruf
  refine call_function_entry_kw PyProof.Rows.kind_sorted PyProof.Rows.plain_sorted PyProof.Rows.entry_sorted (by unfold argsOk; kernel_rfl) ?_
  unfold Builtin.«sorted»
  refine wpAny_bind (m := checkCount "sorted" 1 1 _) (wpAny_pure ?_)
  refine wpAny_bind (collect_x (A := X.A.in1) I (I.ok.hd hc) hx fun h' tk bs kp f3 f1 hl => ?_)
  have I1 : Inv X pins σ H { s with heap := h', toks := tk } := I.kept kp
  refine wpAny_bind (wpAny_newList ?_ (by rw [List.length_map]; exact hl))
  have hoL : (h'.push (seqObj "list" (bs.map fun b => Value.ref b.1).toArray 0)).get? h'.objs.size = some (seqObj "list" (bs.map fun b => Value.ref b.1).toArray 0) := Heap.get?_push_size _ rfl
  show wpAny _ _ _ _ _ { s with heap := h'.push (seqObj "list" (bs.map fun b => Value.ref b.1).toArray 0), toks := tk }
  refine wpAny_bind (wpAny_holding (wpAny_call_entry_kw PyProof.Rows.slot_list_sort ⟨_, hoL, rfl⟩ PyProof.Rows.entry_list_sort ?_ (by unfold argsOk; kernel_rfl)))
  show wpAny _ X.A.in1.in1 (Builtin.«list.sort» ⟨[.ref h'.objs.size], [(Str.ofString "key", .ref f)]⟩) _ _ _
  rw [show Builtin.«list.sort» ⟨[.ref h'.objs.size], [(Str.ofString "key", .ref f)]⟩ = ksk_tree h'.objs.size (.ref f) false from ksk_t1 f _]
  obtain ⟨vs0, hvs⟩ : ∃ vs0, vs0 = bs.map fun b => Value.ref b.1 := ⟨_, rfl⟩
  rw [← hvs] at hoL ⊢
  have hvl : vs0.length = bs.length := by rw [hvs, List.length_map]
  obtain ⟨h2, hh2⟩ : ∃ h2, h2 = h'.push (seqObj "list" vs0.toArray 0) := ⟨_, rfl⟩
  rw [← hh2] at hoL ⊢
  have z2 : h2.objs.size = h'.objs.size + 1 := by rw [hh2, size_push']
  obtain ⟨e1, ho1⟩ : ∃ e1, (h2.update h'.objs.size (Obj.mapSeq fun _ => (#[] : Array Value))).get? h'.objs.size = some (seqObj "list" #[] e1) := ⟨_, get?_update_seq hoL fun _ => #[]⟩
  obtain ⟨h3, hh3⟩ : ∃ h3, h3 = h2.update h'.objs.size (Obj.mapSeq fun _ => (#[] : Array Value)) := ⟨_, rfl⟩
  unfold ksk_tree
  refine wpAny_bind (listItems_at hoL rfl ?_)
  refine wpAny_bind (listUpdate_at hoL rfl ?_ (by rw [List.size_toArray, hvl]; exact hl) (Nat.zero_le _))
  refine wpAny_bind (seqEpoch_at ho1 rfl ?_)
  refine wpAny_bind (wpAny_newTuple ?_ (by show vs0.length ≤ _; rw [hvl]; exact hl))
  refine wpAny_bind (wpAny_newList ?_ (Nat.zero_le _))
  refine wpAny_holding ?_
  have z3 : (h2.update h'.objs.size (Obj.mapSeq fun _ => (#[] : Array Value))).objs.size = h'.objs.size + 1 := by rw [Heap.size_update, z2]
  have z4 : ((h2.update h'.objs.size (Obj.mapSeq fun _ => (#[] : Array Value))).push (seqObj "tuple" vs0.toArray 0)).objs.size = h'.objs.size + 2 := by rw [size_push', z3]
  obtain ⟨hS, hhS⟩ : ∃ hS, hS = ((h2.update h'.objs.size (Obj.mapSeq fun _ => (#[] : Array Value))).push (seqObj "tuple" vs0.toArray 0)).push (seqObj "list" #[] 0) := ⟨_, rfl⟩
  show wpAny _ _ (ksk_rest h'.objs.size (.ref f) false vs0.toArray e1 (.ref ((h2.update h'.objs.size (Obj.mapSeq fun _ => (#[] : Array Value))).push (seqObj "tuple" vs0.toArray 0)).objs.size)) _ _
    { s with heap := ((h2.update h'.objs.size (Obj.mapSeq fun _ => (#[] : Array Value))).push (seqObj "tuple" vs0.toArray 0)).push (seqObj "list" #[] 0), toks := tk }
  have nS : hS.get? (h'.objs.size + 2) = some (seqObj "list" #[] 0) := by
    rw [hhS, ← z4]
    exact Heap.get?_push_size _ rfl
  have nA : hS.get? h'.objs.size = some (seqObj "list" #[] e1) := by
    rw [hhS]
    exact Heap.get?_push_of_some _ (Heap.get?_push_of_some _ ho1)
  have oldS : ∀ b o, b ∉ [h'.objs.size] → h'.get? b = some o → hS.get? b = some o := fun b o hb e => by
    have e2 : h2.get? b = some o := by rw [hh2]; exact Heap.get?_push_of_some _ e
    rw [hhS]
    refine Heap.get?_push_of_some _ (Heap.get?_push_of_some _ ?_)
    rw [Heap.get?_update_ne _ _ _ _ (fun z => hb (by rw [z]; exact List.mem_singleton.mpr rfl))]
    exact e2
  rw [z4, ← hhS]
  obtain ⟨a, ha⟩ : ∃ a, a = h'.objs.size := ⟨_, rfl⟩
  obtain ⟨kS, hkS⟩ : ∃ kS, kS = h'.objs.size + 2 := ⟨_, rfl⟩
  rw [← ha] at nA oldS
  rw [← hkS] at nS
  rw [← hkS, ← ha]
  have hka : kS ≠ a := by omega
  have za : h'.objs.size ≤ a := by omega
  have zk : h'.objs.size ≤ kS := by omega
  have fa0 : H a = none := I1.hok.fresh (by rw [ha]; exact Nat.le_refl _)
  have fk0 : H kS = none := I1.hok.fresh (by rw [hkS]; exact Nat.le_add_right _ _)
  have nst : ∀ b, h'.objs.size ≤ b → b ∉ frs X.stack := fun b hb m => by
    rcases List.mem_cons.mp (I1.stkSub b m) with z | z
    · exact absurd (Nat.lt_of_lt_of_le I1.lt (by rw [← z]; exact hb)) (Nat.lt_irrefl _)
    · exact I1.nofs hb z
  have hbt : ∀ b ∈ bs, IT H b.1 b.2 := fun b m => (f3.2 b m).it
  have B0 : Between X { s with heap := h', toks := tk } H a kS e1 (bs.take 0) { s with heap := hS, toks := tk } H [] 0 :=
    ⟨rfl, I.bare, un_but (ch := [a]) Un.refl (fun b m => by rw [List.mem_singleton.mp m]; exact za) oldS, hok_but (ch := [a]) I1.hok (fun b m => by rw [List.mem_singleton.mp m]; exact fa0) oldS, Same.refl _, nA, nS, fa0, fk0, by rw [List.take_zero]; exact .nil⟩
  unfold ksk_rest
  refine wpAny_bind (wpAny_rule ?_)
  rw [List.forIn_toArray]
  refine wpAny_bind (ksk_fold (fun i s' => ∃ H' ts e, Between X { s with heap := h', toks := tk } H a kS e1 (bs.take i) s' H' ts e) vs0 0 _ ⟨H, [], 0, B0⟩ ?step ?done)
  case step =>
    rintro j x s' hx ⟨H', ts, e, B⟩
    simp only [Nat.zero_add] at B ⊢
    have hj : j < bs.length := by
      have z := (List.getElem?_eq_some_iff.mp hx).1
      omega
    have hx2 : x = .ref bs[j].1 := by
      rw [hvs, List.getElem?_map, List.getElem?_eq_getElem hj] at hx
      exact (Option.some.inj hx).symm
    have hm : bs[j] ∈ bs := List.getElem_mem hj
    subst hx2
    have I' : Inv X pins σ H' s' := I1.call' B.os B.un B.hok B.bare (fun b z => absurd z (by simp))
    have hbn : BindsTo s' fd ⟨[.ref bs[j].1], []⟩ (ps.zip [.ref bs[j].1]) := by
      have z := hb s' [.ref bs[j].1] I'.kIn (by simpa using F.len _ _ _ _ (hsp bs[j] H (fun _ _ => True) (hbt _ hm) fun _ _ _ _ => trivial))
      simpa using z
    refine wpAny_bind (wpAny_attempt (wpAny_call (codeAny_mono (F.run X.A.in1.in1 X.stack s' H' ⟨[.ref bs[j].1], []⟩ [.ref bs[j].1] [V.ref bs[j].1] (fun v H2 => Same H' H2 ∧ ∃ t, v = .ref t ∧ H2 t = some (.tup [.int bs[j].2.sum, .ref bs[j].1])) E0 hr.in1.in1 I'.env0.in1.in1 hbn (.cons rfl .nil)
      (hsp bs[j] H' _ ((hbt _ hm).same B.same) fun t H2 hs ht => ⟨hs, t, rfl, ht⟩)) fun r s'' hq => ?_)))
    cases r with
    | error er => exact False.elim hq
    | ok fl =>
      cases fl with
      | next => exact False.elim hq
      | brk => exact False.elim hq
      | cont => exact False.elim hq
      | ret u =>
        obtain ⟨v, H2, os2, bare2, un2, hok2, rv2, same2, t, rfl, ht⟩ := hq
        cases rv2
        have nk2 := un2.keep kS _ B.nk B.fk (nst kS zk) (by simp)
        have na2 := un2.keep a _ B.na B.fa (nst a za) (by simp)
        have fk2 := un2.free kS _ B.nk B.fk (by simp)
        have fa2 := un2.free a _ B.na B.fa (by simp)
        have hlt : ts.length = j := by
          have z := Paired.length B.keys
          rw [List.length_take] at z
          omega
        obtain ⟨c2, hc2⟩ : ∃ c2, (s''.heap.update kS (Obj.mapSeq (·.push (Value.ref t)))).get? kS = some (seqObj "list" ((ts.map Value.ref).toArray.push (Value.ref t)) c2) := ⟨_, get?_update_seq nk2 (·.push (Value.ref t))⟩
        have other : ∀ b o, b ∉ [kS] → s''.heap.get? b = some o → (s''.heap.update kS (Obj.mapSeq (·.push (Value.ref t)))).get? b = some o := fun b o hb e => by
          rw [Heap.get?_update_ne _ _ _ _ (fun z => hb (by rw [z]; exact List.mem_singleton.mpr rfl))]
          exact e
        try dsimp only
        refine wpAny_bind (listUpdate_at nk2 rfl ?_ (by simp; omega) (by simp; omega))
        refine wpAny_pure ⟨rfl, H2, ts ++ [t], c2, ?_⟩
        have ek : bs.take (j + 1) = bs.take j ++ [bs[j]] := by rw [List.take_add_one, List.getElem?_eq_getElem hj]; rfl
        rw [ek]
        refine ⟨os2.trans B.os, bare2, un_but (ch := [kS]) (B.un.trans un2) (fun b m => by rw [List.mem_singleton.mp m]; exact zk) other, hok_but (ch := [kS]) hok2 (fun b m => by rw [List.mem_singleton.mp m]; exact fk2) other, B.same.trans same2,
          other a _ (by simpa using hka.symm) na2, by rw [hc2]; simp, fa2, fk2, ?_⟩
        exact paired_snoc (paired_imp (fun x y z => same2 _ _ z) B.keys) ht
  case done =>
    rintro s' ⟨H', ts, e, B⟩
    have et : bs.take (0 + vs0.length) = bs := List.take_of_length_le (by omega)
    rw [et] at B
    have ek := each_keys B.hok (fun b m => (hbt b m).same B.same) B.keys
    have hsz : (ts.map Value.ref).toArray.size = vs0.length := by
      have z := Paired.length B.keys
      simp
      omega
    try dsimp only
    refine wpAny_bind (listItems_at B.nk rfl ?_)
    have hun : ∀ d, d ∈ bs.map keyT → X.A.in1.in1.units + d.depth < cLine := fun d hd => by
      obtain ⟨b, _, rfl⟩ := List.mem_map.mp hd
      have z1 := keyDepth b
      have z2 := hr.un
      show X.A.units + 2 + (keyT b).depth < cLine
      omega
    refine PySem.W.keyH_end (κ := PySem.W.dataKind s'.heap (bs.map keyT)) (h₁ := lost s'.heap kS) (s := s') (fun b o hb e => ?_) (lost_at _ _) B.nk B.na hka (PySem.W.SortsAt.data (by simpa using ek) (keyAlike bs) (keySortable bs) hun) hsz (by rw [hvl]; exact hl) fun h4 tk4 c k4 n4 => ?_
    · by_cases hbk : b = kS
      · rw [hbk, lost_at] at e; cases e
      · rw [lost_ne hbk] at e; exact e
    · have ko : PySem.W.KeyedOut false (bs.map keyT) vs0 (PySem.W.sortVals (PySem.W.dataKind s'.heap (bs.map keyT)) false (ts.map Value.ref) vs0) := ⟨s'.heap, _, keyAlike bs, rfl, ek⟩
      have eo := PySem.W.keyedOut_each (R := IsB) keyT ko (by rw [hvs]; exact each_refs bs)
      have e2 := of_each eo
      have hp : List.Perm (bs.mergeSort (PySem.W.dataLe false keyT)) bs := List.mergeSort_perm _ _
      simp only [List.toList_toArray] at n4
      rw [e2] at n4
      have other : ∀ b o, b ∉ [a, kS] → s'.heap.get? b = some o → h4.get? b = some o := fun b o hb e => k4 b o (fun z => hb (by simp [z])) (by rw [lost_ne (fun z => hb (by simp [z]))]; exact e)
      have hin : ∀ b ∈ [a, kS], h'.objs.size ≤ b := fun b m => by
        rcases List.mem_cons.mp m with z | z
        · rw [z]; exact za
        · rw [List.mem_singleton.mp z]; exact zk
      have hin2 : ∀ b ∈ [a, kS], H' b = none := fun b m => by
        rcases List.mem_cons.mp m with z | z
        · rw [z]; exact B.fa
        · rw [List.mem_singleton.mp z]; exact B.fk
      have same2 : Same H (upd H' a (.lst ((bs.mergeSort (PySem.W.dataLe false keyT)).map fun b => V.ref b.1))) := fun b o e => by
        have z := B.same b o e
        rw [upd_ne (ne_of_none z B.fa)]
        exact z
      have okn : HOk X.prog X.w (upd H' a (.lst ((bs.mergeSort (PySem.W.dataLe false keyT)).map fun b => V.ref b.1))) h4 := by
        refine hok_lay (hok_but B.hok hin2 other) B.fa ⟨?_, _, c, vals_tb' _, n4⟩
        rw [List.length_map, hp.length_eq]
        exact hl
      refine ⟨_, rfl, wpAny_pure ⟨_, rfl, .ref a, _, I1.call' (s' := { s' with heap := h4, toks := tk4 }) B.os (un_lay (un_but B.un hin other) za B.fa) okn B.bare (fun b z => absurd z (by simp)), rfl, q _ _ a same2 ?_ upd_same⟩⟩
      rw [List.length_map, hp.length_eq, f1]
end
end K31

set_option Elab.async false
set_option linter.all false
set_option maxRecDepth 100000
set_option maxHeartbeats 4000000
namespace K31
open PySem PySem.Spec PyProof.Rows L2
/-! ### the walk, 0: what stands; calls; loops -/
abbrev FnP (K : PySem.W.Frag) (x : Str) (st : Stmt) (f : Addr) (fd : FuncData) : Prop := FunD K x x (defArgs st) (defBody st) (defScope st) [] [] f fd
def Dd (K : PySem.W.Frag) (mg : Str → Option Value) (x : Str) (st : Stmt) : Prop := ∃ f fd, FnP K x st f fd ∧ mg x = some (.ref f)
/-- the class's address -/
abbrev cH (K : PySem.W.Frag) : Addr := He.ga K "Hall"
/-- what stands behind the top -/
structure Ev (K : PySem.W.Frag) (mg : Str → Option Value) : Prop where
  len : mg "len" = none
  isi : mg "isinstance" = none
  all : mg "all" = none
  tup : mg "tuple" = none
  srt : mg "sorted" = none
  sum : mg "sum" = none
  zip : mg "zip" = none
  enu : mg "enumerate" = none
  rng : mg "range" = none
  max : mg "max" = none
  min : mg "min" = none
  lst : mg "list" = none
  dic : mg "dict" = none
  int : mg "int" = none
  bool : mg "bool" = none
  lamps : ∃ t, mg "MOST_LAMPS" = some (.int 8 t)
  push : ∃ t, mg "MOST_PUSH" = some (.int 4 t)
  load : ∃ t, mg "MOST_LOAD" = some (.int 400 t)
  ending : ∃ t, mg "ENDING" = some (.str "ending" t)
  flat : ∃ t, mg "FLAT" = some (.str "flat" t)
  wild : ∃ t, mg "WILD" = some (.str "wild" t)
  hall : mg "Hall" = some (.ref (cH K))
  cls : Cls K (cH K)
  told : NoAttr K (cH K) "told"
  mkr : Mk K (cH K) (He.ma K (cH K) "__init__")
  hlen : Meth K (cH K) "__len__" (He.ma K (cH K) "__len__")
  ins : C8.InsC K (cH K)
/-- a def that keeps its promise, by name -/
def Ca (P : Program) (w : World) (K : PySem.W.Frag) (mg : Str → Option Value) (base : Heap) (k : Nat) (x : Str) (ps : List Str) (sp : Sp) : Prop :=
  ∃ f fd, FnOk P w K mg base CX0 k f fd ps sp ∧ mg x = some (.ref f) ∧ PySem.W.keepIn K (.ref f) = true ∧ Binds K fd ps []
section
variable {P : Program} {w : World} {K : PySem.W.Frag} {mg : Str → Option Value} {base : Heap}
theorem Ca.mono {j k : Nat} {x : Str} {ps : List Str} {sp : Sp} (c : Ca P w K mg base j x ps sp) (h : j ≤ k) : Ca P w K mg base k x ps sp := by
  obtain ⟨f, fd, F, r⟩ := c
  exact ⟨f, fd, F.mono h, r⟩
/-- the context of a def's body -/
abbrev Bx (P : Program) (w : World) (K : PySem.W.Frag) (mg : Str → Option Value) (base : Heap) (N : List Str) (x : Str) (st : Stmt) (f : Addr) (cd : Value) (A : Around) (outer : List Env) (s : Shared) (H : Hp) (E : XK) : Cx :=
  (cxOf CX0 P w K mg base N x (defScope st) f cd A outer s H E).nox
theorem mk_ca {x : Str} {st : Stmt} {N ps : List Str} {k : Nat} {sp : Sp} (D : Dd K mg x st) (S : FnScope N ps (defScope st)) (len : ∀ vs H Q E, sp vs H Q E → vs.length = ps.length)
    (bind : ∀ (kV doc pm : Value) (an : Option Addr) (cdv ct : Value) (us : List Value), us.length = ps.length → bindArgs (PySem.W.fnOf x x (defArgs st) (defBody st) (defScope st) .none kV doc pm an cdv ct) ⟨us, []⟩ = pure (ps.zip us))
    (body : ∀ (f : Addr) (cd : Value) (A : Around) (outer : List Env) (s : Shared) (H : Hp) (vs : List V) (Q : VK) (E : XK), Room k (A.deeper (envOfC x (defScope st) s.heap.objs.size f cd)) → sp vs H Q E →
      ∃ t, PSs (Bx P w K mg base N x st f cd A outer s H E) (defBody st) t ∧ t { nx := fun _ H' => Q .non H', rt := Q } (start N vs) H) : Ca P w K mg base (k + 1) x ps sp := by
  obtain ⟨f, fd, F, g⟩ := D
  refine ⟨f, fd, F.ok S len (fun cd A outer s H vs Q E hr h => ?_), g, F.kp, F.bindsN bind⟩
  obtain ⟨t, h1, h2⟩ := body f cd A outer s H vs Q E hr h
  exact ⟨t, PSs.nox h1, h2⟩
end
section
variable {X : Cx} {x : Str} {p pos : Pos} {e : Expr} {es : List Expr} {t : TA} {k : Nat} {ps : List Str} {sp : Sp}
theorem pe_ca (c : Ca X.prog X.w X.K X.mg X.base k x ps sp) (hr : Room k X.A) (hg : Gl X x) (ha : PA X (e :: es) t) (hdb : (x == ("__debug__" : Str)) = false := by decide)
    (he : starEach (e :: es) X.env = (false, eval e X.env) :: starEach es X.env := by rfl) (hpl : (backTo pos (starEach es X.env)).any (·.1) = false := by rfl) : PE X (.Call (.Name x p) (e :: es) [] pos) (tCall sp [] E0 t) := by
  obtain ⟨f, fd, F, g, kp, b⟩ := c
  exact pe_call F hr hg g kp b .nil pass0 ha hdb he hpl
end
/-! heaps -/
theorem same_upd {H : Hp} {p : Addr} {o : HO} (h : H p = none) : Same H (upd H p o) := fun b u e => by
  rw [upd_ne (ne_of_none e h)]
  exact e
theorem SB.refl {D : Addr} {H : Hp} : SB D H H := fun _ _ _ e => e
theorem SB.trans {D : Addr} {H H1 H2 : Hp} (a : SB D H H1) (b : SB D H1 H2) : SB D H H2 := fun c o n e => b c o n (a c o n e)
theorem SB.same {D : Addr} {H H' : Hp} (h : Same H H') : SB D H H' := fun c o _ e => h c o e
theorem SB.new {D : Addr} {H H' : Hp} (n : H D = none) (h : SB D H H') : Same H H' := fun c o e => h c o (ne_of_none e n) e
theorem SB.upd {D : Addr} {H : Hp} {o : HO} : SB D H (upd H D o) := fun c u n e => by
  rw [upd_ne n]
  exact e
theorem sqT_same {K : PySem.W.Frag} {H H' : Hp} {a : Addr} {xs : List V} (e : Same H H') (h : SqT K H a xs) : SqT K H' a xs := by
  rcases h with (h | ⟨o, h⟩) | h
  · exact .inl (.inl (e _ _ h))
  · exact .inl (.inr ⟨o, e _ _ h⟩)
  · exact .inr h
theorem sqK_same {K : PySem.W.Frag} {k : Kd} {H H' : Hp} {a : Addr} {xs : List V} (e : Same H H') (h : SqK K k H a xs) : SqK K k H' a xs := by
  cases k with
  | li => exact e.seq h
  | tu => exact sqT_same e h
/-! ### what is walked, whatever it is -/
structure Walk (J : It) (n : Nat) (P : Hp → Prop) (X : Nat → V → Hp → Hp → Prop) : Prop where
  go : ∀ i H, i < n → P H → J.go i H
  stop : ∀ H, P H → J.stop n H
  yld : ∀ i H x H', i < n → P H → J.yld i H x H' → X i x H H'
def XSeq (xs : List V) : Nat → V → Hp → Hp → Prop := fun i x H H' => H' = H ∧ xs[i]? = some x
def XRng (lo : Int) : Nat → V → Hp → Hp → Prop := fun i x H H' => H' = H ∧ x = .int (lo + i)
def XZip (xs ys : List V) : Nat → V → Hp → Hp → Prop := fun i v H H' => ∃ T x y, v = .ref T ∧ H T = none ∧ H' = upd H T (.tup [x, y]) ∧ xs[i]? = some x ∧ ys[i]? = some y
def XEnu (xs : List V) : Nat → V → Hp → Hp → Prop := fun i v H H' => ∃ T x, v = .ref T ∧ H T = none ∧ H' = upd H T (.tup [.int (i : Nat), x]) ∧ xs[i]? = some x
theorem walk_tup {K : PySem.W.Frag} {a : Addr} {xs : List V} : Walk (Itt K a) xs.length (fun H => SqT K H a xs) (XSeq xs) :=
  ⟨fun i H hi h => ⟨xs, xs[i], h, List.getElem?_eq_getElem hi⟩, fun H h => ⟨xs, h, Nat.le_refl _⟩, fun i H x H' hi h y => ⟨y.1, y.2 xs h⟩⟩
theorem walk_list {K : PySem.W.Frag} {a : Addr} {xs : List V} : Walk (Itl K a) xs.length (fun H => SqL K H a xs) (XSeq xs) :=
  ⟨fun i H hi h => ⟨xs, xs[i], h, List.getElem?_eq_getElem hi⟩, fun H h => ⟨xs, h, Nat.le_refl _⟩, fun i H x H' hi h y => ⟨y.1, y.2 xs h⟩⟩
theorem walk_rng {lo : Int} {n : Nat} : Walk (Itr lo n) n (fun _ => True) (XRng lo) :=
  ⟨fun i H hi h => hi, fun H h => Nat.le_refl n, fun i H x H' hi h y => y⟩
theorem walk_zip {K : PySem.W.Frag} {k m : Kd} {a b : Addr} {xs ys : List V} (hl : xs.length = ys.length) : Walk (ItzK K k m a b) xs.length (fun H => SqK K k H a xs ∧ SqK K m H b ys) (XZip xs ys) :=
  ⟨fun i H hi h => ⟨xs, ys, xs[i], ys[i], h.1, h.2, List.getElem?_eq_getElem hi, List.getElem?_eq_getElem (by omega)⟩, fun H h => ⟨xs, ys, h.1, h.2, rfl, hl.symm⟩,
    fun i H v H' hi h q => let ⟨T, x, y, e, n, e2, f1, f2⟩ := q; ⟨T, x, y, e, n, e2, f1 xs h.1, f2 ys h.2⟩⟩
theorem walk_enu {K : PySem.W.Frag} {k : Kd} {a : Addr} {xs : List V} : Walk (IteK K k a) xs.length (fun H => SqK K k H a xs) (XEnu xs) :=
  ⟨fun i H hi h => ⟨xs, xs[i], h, List.getElem?_eq_getElem hi⟩, fun H h => ⟨xs, h, rfl⟩,
    fun i H v H' hi h q => let ⟨T, x, e, n, e2, f1⟩ := q; ⟨T, x, e, n, e2, f1 xs h⟩⟩
section
variable {J : It} {n : Nat} {P : Hp → Prop} {X : Nat → V → Hp → Hp → Prop}
/-- what a for loop asks when its walk has begun -/
def ForB (J : It) (g : TG) (tb : TS) (D : Ends) (σ : L2.St) (H1 : Hp) : Prop := ∃ W : Nat → Nat → L2.St → Hp → Prop, (∃ m, W 0 m σ H1) ∧ ∀ i m σ H, W i m σ H →
  (J.stop i H ∧ D.nx σ H) ∨ (J.go i H ∧ ∃ N : L2.St → Hp → Prop, (∀ σ' H', N σ' H' → ∃ m', m' < m ∧ W (i + 1) m' σ' H') ∧ ∀ x H', J.yld i H x H' → g x σ H' fun σ2 H2 => tb { D with nx := N, ct := N, bk := D.nx } σ2 H2)
def tForW (wi : TI) (g : TG) (tb : TS) : TS := fun D σ H => wi σ H fun J H1 => ForB J g tb D σ H1
theorem ps_forW {X : Cx} {tg iter : Expr} {body : List Stmt} {wi : TI} {g : TG} {tb : TS} {pos : Pos} (hc : X.calm = true) (hi : PI X tg iter wi) (hg : PG X tg g) (hb : PSs X body tb) (hp : PassesOwn (model X.prog X.w) X.A X.env X.xe := by exact PassesOwn.never)
    (hs : ∀ x, foldedSetIterable iter X.env x = pure x := by intro _; rfl) : PS X (.For tg iter body [] pos) (tForW wi g tb) := ps_for hp hc hi hg hb hs
/-- what a list comprehension without tests asks when its walk has begun -/
def LcB (J : It) (g : TG) (te : TE) (vs : List Nat) (σ : L2.St) (H1 : Hp) (Q : VK) : Prop := ∀ D, H1 D = none → ∃ W : Nat → Nat → Hp → Prop, (∃ m, W 0 m (upd H1 D (.lst []))) ∧ ∀ i m H, W i m H →
  (J.stop i H ∧ Q (.ref D) H) ∨ (J.go i H ∧ ∃ Nx : Hp → Prop, (∀ H', Nx H' → ∃ m', m' < m ∧ W (i + 1) m' H') ∧ ∀ x H', J.yld i H x H' → g x (wipe σ vs) H' fun σ2 H2 => wipe σ2 vs = wipe σ vs ∧ tYes σ2 H2 fun b H3 =>
    if b = true then te σ2 H3 fun y H4 => ∃ acc, H4 D = some (.lst acc) ∧ acc.length < sizeLine ∧ Nx (upd H4 D (.lst (acc ++ [y]))) else Nx H3)
def tLcW (wi : TI) (g : TG) (te : TE) (vs : List Nat) : TE := fun σ H Q => wi σ H fun J H1 => LcB J g te vs σ H1 Q
theorem pe_lcW {X : Cx} {elt tg iter : Expr} {scope : Scope} {own : List (Str × Nat)} {pos : Pos} {wi : TI} {g : TG} {te : TE} (hc : X.calm = true) (hN : X.N.Nodup) (hi : PI X tg iter wi) (ok : BlkOk X.N X.env.scope scope own)
    (hg : ∀ (s : Shared) (H : Hp) (C : Addr) (cl : List (Str × Addr)) (fp : List Addr), PG (X.blk s H scope (compEnvC scope cl C X.env) fp) tg g)
    (he : ∀ (s : Shared) (H : Hp) (C : Addr) (cl : List (Str × Addr)) (fp : List Addr), PE (X.blk s H scope (compEnvC scope cl C X.env) fp) elt te) (hs : ∀ x, foldedSetIterable iter X.env x = pure x := by intro _; rfl) :
    PE X (.ListComp elt [⟨tg, iter, [], 0⟩] scope pos) (tLcW wi g te (own.map (·.2))) := pe_lc (tt := tYes) hc hN hi ok hg (fun _ _ _ _ _ => pts_nil) he hs
/-- a for loop -/
theorem for_walk {g : TG} {tb : TS} {D : Ends} {σ : L2.St} {H1 : Hp} (Wk : Walk J n P X) (Pv : Nat → L2.St → Hp → Prop) (h0 : Pv 0 σ H1) (hP : ∀ i σ H, i ≤ n → Pv i σ H → P H)
    (hs : ∀ i x σ H H', i < n → Pv i σ H → X i x H H' → g x σ H' fun σ2 H2 => tb { D with nx := Pv (i + 1), ct := Pv (i + 1), bk := D.nx } σ2 H2) (hd : ∀ σ H, Pv n σ H → D.nx σ H) : ForB J g tb D σ H1 := by
  refine ⟨fun i m σ H => m = n - i ∧ i ≤ n ∧ Pv i σ H, ⟨n, rfl, Nat.zero_le _, h0⟩, ?_⟩
  rintro i m σ H ⟨rfl, hi, p⟩
  have hp := hP i σ H hi p
  by_cases hlt : i < n
  · exact .inr ⟨Wk.go i H hlt hp, Pv (i + 1), fun σ' H' p' => ⟨n - (i + 1), by omega, rfl, hlt, p'⟩, fun x H' y => hs i x σ H H' hlt p (Wk.yld i H x H' hlt hp y)⟩
  · have e : i = n := by omega
    subst e
    exact .inl ⟨Wk.stop H hp, hd σ H p⟩
/-- a list comprehension without tests -/
theorem lc_walk {g : TG} {te : TE} {vs : List Nat} {σ : L2.St} {H1 : Hp} {Q : VK} (Wk : Walk J n P X) (hn : n < sizeLine) (hP : ∀ H, Same H1 H → P H) (Rel : Addr → Nat → V → Hp → Prop)
    (hst : ∀ D i y H H', Rel D i y H → SB D H H' → Rel D i y H')
    (hs : ∀ D i x H H' (Kc : VK), i < n → Same H1 H → (∃ ys, H D = some (.lst ys)) → X i x H H' → (∀ y H4, Same H H4 → Rel D i y H4 → Kc y H4) → g x (wipe σ vs) H' fun σ2 H2 => wipe σ2 vs = wipe σ vs ∧ te σ2 H2 Kc)
    (hd : ∀ D H ys, H1 D = none → Same H1 H → H D = some (.lst ys) → ys.length = n → (∀ j y, ys[j]? = some y → Rel D j y H) → Q (.ref D) H) : LcB J g te vs σ H1 Q := by
  intro D hD
  let Pv : Nat → Hp → Prop := fun i H => Same H1 H ∧ ∃ ys, H D = some (.lst ys) ∧ ys.length = i ∧ ∀ j y, ys[j]? = some y → Rel D j y H
  refine ⟨fun i m H => m = n - i ∧ i ≤ n ∧ Pv i H, ⟨n, rfl, Nat.zero_le _, same_upd hD, [], upd_same, rfl, fun j y e => by simp at e⟩, ?_⟩
  rintro i m H ⟨rfl, hi, s, ys, e, l, r⟩
  have hp := hP H s
  by_cases hlt : i < n
  · refine .inr ⟨Wk.go i H hlt hp, Pv (i + 1), fun H' p' => ⟨n - (i + 1), by omega, rfl, hlt, p'⟩, fun x H' hy => hs D i x H H' _ hlt s ⟨ys, e⟩ (Wk.yld i H x H' hlt hp hy) fun y H4 s4 r4 => ?_⟩
    refine ⟨ys, s4 _ _ e, by omega, fun b o q => ?_, ys ++ [y], upd_same, by simp [l], fun j z ez => ?_⟩
    · rw [upd_ne (ne_of_none q hD)]
      exact s4 _ _ (s _ _ q)
    · rcases Nat.lt_or_ge j ys.length with hj | hj
      · rw [List.getElem?_append_left hj] at ez
        exact hst D j z _ _ (r j z ez) (fun b o hb q => by rw [upd_ne hb]; exact s4 _ _ q)
      · rw [List.getElem?_append_right hj] at ez
        have hj0 : j - ys.length = 0 := by
          rcases Nat.eq_zero_or_pos (j - ys.length) with z0 | z0
          · exact z0
          · rw [List.getElem?_eq_none (by simp; omega)] at ez
            cases ez
        rw [hj0] at ez
        have ez2 : y = z := Option.some.inj ez
        have hji : j = i := by omega
        rw [← ez2, hji]
        exact hst D i y H4 _ r4 (fun b o hb q => by rw [upd_ne hb]; exact q)
  · have ei : i = n := by omega
    subst ei
    exact .inl ⟨Wk.stop H hp, hd D H ys hD s e l r⟩
end
/-- all values told by their place -/
theorem vals_at {ys : List V} {n : Nat} {f : Nat → V} (l : ys.length = n) (h : ∀ j y, ys[j]? = some y → y = f j) : ys = (List.range n).map f := by
  apply List.ext_getElem?
  intro j
  rw [List.getElem?_map]
  rcases Nat.lt_or_ge j n with hj | hj
  · rw [List.getElem?_range hj]
    have e : ys[j]? = some ys[j] := List.getElem?_eq_getElem (by omega)
    rw [e, h j _ e]
    rfl
  · rw [List.getElem?_eq_none (by omega), List.getElem?_eq_none (by simpa using hj)]
    rfl
/-! ### data -/
/-- a tuple of tuples of ints -/
def TT (H : Hp) (a : Addr) (M : Mat) : Prop := ∃ rs : List Addr, H a = some (.tup (rs.map V.ref)) ∧ rs.length = M.length ∧ ∀ (i : Nat) (r : Addr) (ns : List Int), rs[i]? = some r → M[i]? = some ns → IT H r ns
theorem IT.ty {K : PySem.W.Frag} {H : Hp} {a : Addr} {ns : List Int} (h : IT H a ns) : TyX K H (.ref a) (.type "tuple") := by
  rcases h with h | ⟨o, h⟩
  · exact .base (.tup h)
  · exact .fTuple h
theorem TT.same {H H' : Hp} {a : Addr} {M : Mat} (e : Same H H') (h : TT H a M) : TT H' a M := by
  obtain ⟨rs, h1, h2, h3⟩ := h
  exact ⟨rs, e _ _ h1, h2, fun i r ns q1 q2 => (h3 i r ns q1 q2).same e⟩
/-- a hall with these pushes -/
def HallAt (K : PySem.W.Frag) (H : Hp) (a : Addr) (M : Mat) : Prop := ∃ dx t, H a = some (.ins (cH K) dx [("told", .ref t)]) ∧ TT H t M
theorem HallAt.same {K : PySem.W.Frag} {H H' : Hp} {a : Addr} {M : Mat} (e : Same H H') (h : HallAt K H a M) : HallAt K H' a M := by
  obtain ⟨dx, t, h1, h2⟩ := h
  exact ⟨dx, t, e _ _ h1, h2.same e⟩
theorem int_get {ns : List Int} {i : Nat} {x : Int} (h : ns[i]? = some x) : (ns.map V.int)[i]? = some (.int x) := by
  rw [List.getElem?_map, h]
  rfl
theorem get_int {ns : List Int} {i : Nat} {v : V} (h : (ns.map V.int)[i]? = some v) : ∃ x, v = .int x ∧ ns[i]? = some x := by
  rw [List.getElem?_map] at h
  cases e : ns[i]? with
  | none => rw [e] at h; cases h
  | some x => rw [e] at h; exact ⟨x, (Option.some.inj h).symm, rfl⟩
end K31

set_option Elab.async false
set_option linter.all false
set_option maxRecDepth 100000
set_option maxHeartbeats 4000000
namespace K31
open PySem PySem.Spec PyProof.Rows L2
/-! ### the walk, 1: values told apart; halls -/
theorem pe_gi {X : Cx} {x : Str} {i : Int} {pos : Pos} (hg : Gl X x) (h : ∃ t, X.mg x = some (.int i t)) (hd : (x == ("__debug__" : Str)) = false := by decide) : PE X (.Name x pos) (tC (.int i)) := by
  obtain ⟨t, e⟩ := h
  exact pe_glob hg e ⟨t, rfl⟩ hd
theorem pe_gs {X : Cx} {x z : Str} {pos : Pos} (hg : Gl X x) (h : ∃ t, X.mg x = some (.str z t)) (hd : (x == ("__debug__" : Str)) = false := by decide) : PE X (.Name x pos) (tC (.str z)) := by
  obtain ⟨t, e⟩ := h
  exact pe_glob hg e ⟨t, rfl⟩ hd
/-- isinstance(x, T), T built in -/
def rIsT (K : PySem.W.Frag) : List V → Hp → VK → Prop := fun xs H Q => ∃ (x : V) (T S : String) (b : Bool), xs = [x, .ty S] ∧ TyX K H x (.type T) ∧ kitB T S = some b ∧ Q (.bl b) H
theorem call_isT {X : Cx} : CallR X (.builtin "isinstance") (rIsT X.K) := by
  intro pins s σ H xs us Q I r h
  obtain ⟨x, T, S, b, rfl, ht, hk, q⟩ := h
  exact call_isi pins s σ H _ us Q I r ⟨x, .ty S, .type T, .type S, b, rfl, .ty S, ht, kit_ty hk, q⟩
/-- not an int, by its type -/
def NotInt (K : PySem.W.Frag) (H : Hp) (v : V) : Prop := (∃ b, v = .bl b) ∨ ∃ T, TyX K H v (.type T) ∧ kitB T "int" = some false
def spIsFrom (K : PySem.W.Frag) : Sp := fun vs H Q _ => ∃ (v : V) (lo hi : Int), vs = [v, .int lo, .int hi] ∧ ((∃ i : Int, v = .int i ∧ Q (.bl (decide (lo ≤ i) && decide (i ≤ hi))) H) ∨ (NotInt K H v ∧ Q (.bl false) H))
section
variable {P : Program} {w : World} {K : PySem.W.Frag} {mg : Str → Option Value} {base : Heap}
theorem sc_is_from : FnScope ["value", "low", "high"] ["value", "low", "high"] (defScope s_is_from) := ⟨rfl, rfl, rfl, by decide +kernel, rfl, by decide +kernel, by decide +kernel⟩
theorem pe_isi {X : Cx} {e : Expr} {te : TE} {p p2 pos : Pos} {T : Str} {U : String} (h1 : X.mg "isinstance" = none) (h2 : X.mg T = none) (hb : bootBuiltins T = some (.type U)) (he : PE X e te) (g1 : Gl X "isinstance") (g2 : Gl X T) (hn : T ≠ "__name__" := by decide) (hd : (T == ("__debug__" : Str)) = false := by decide)
    (hs : starEach [e, .Name T p2] X.env = (false, eval e X.env) :: starEach [.Name T p2] X.env := by rfl) (hs2 : starEach [.Name T p2] X.env = (false, eval (.Name T p2) X.env) :: starEach [] X.env := by rfl) (hpl : (backTo pos (starEach [.Name T p2] X.env)).any (·.1) = false := by rfl) :
    PE X (.Call (.Name "isinstance" p) [e, .Name T p2] [] pos) (tCB (rIsT X.K) (tCons te (tCons (tC (.ty U)) tNil))) :=
  pe_callB call_isT g1 h1 boot_isinstance (pa_cons he (pa_cons (pe_bltn g2 h2 hb rfl hn hd) pa_nil hs2) hs) (by decide) (by decide) hs hpl
theorem ok_is_from (E : Ev K mg) (D : Dd K mg "is_from" s_is_from) : Ca P w K mg base 1 "is_from" ["value", "low", "high"] (spIsFrom K) := by
  refine mk_ca (k := 0) D sc_is_from (fun vs H Q E h => ?_) (fun _ _ _ _ _ _ us hl => match us, hl with | [_, _, _], _ => rfl) (fun f cd A outer s H vs Q E' hr h => ?_)
  · obtain ⟨v, lo, hi, rfl, _⟩ := h
    rfl
  obtain ⟨v, lo, hi, rfl, h⟩ := h
  refine ⟨_, pss_one (ps_ret (pe_and (pe_isi E.isi E.int boot_int (pv 0) (by rfl) (by rfl)) (pe_and (pe_not (pe_isi E.isi E.bool boot_bool (pv 0) (by rfl) (by rfl))) (pe_one (pe_chain op_le op_le (pv 1) (pv 0) (pv 2)))))), ?_⟩
  rcases h with ⟨i, rfl, q⟩ | ⟨⟨b, rfl⟩ | ⟨T, ht, hk⟩, q⟩
  · refine ⟨.int i, rfl, .int i, "int", "int", true, rfl, .base (.int i), by decide +kernel, true, rfl, iteT ?_⟩
    refine ⟨.int i, rfl, .int i, "int", "bool", false, rfl, .base (.int i), by decide +kernel, false, rfl, true, rfl, iteT ?_⟩
    refine ⟨.int lo, rfl, .int i, rfl, lo, i, rfl, rfl, decide (lo ≤ i), rfl, ?_⟩
    by_cases hc : lo ≤ i
    · rw [decide_eq_true hc] at q ⊢
      exact iteT ⟨.int hi, rfl, i, hi, rfl, rfl, q⟩
    · rw [decide_eq_false hc] at q ⊢
      exact iteF q
  · refine ⟨.bl b, rfl, .bl b, "bool", "int", true, rfl, .base (.bl b), by decide +kernel, true, rfl, iteT ?_⟩
    exact ⟨.bl b, rfl, .bl b, "bool", "bool", true, rfl, .base (.bl b), by decide +kernel, true, rfl, false, rfl, iteF q⟩
  · exact ⟨v, rfl, v, T, "int", false, rfl, ht, hk, false, rfl, iteF q⟩

/-! ### are_pushes -/
def spArePushes (K : PySem.W.Frag) : Sp := fun vs H Q _ => ∃ (a : Addr) (ns : List Int) (i : Nat), vs = [.ref a, .int i, .int ns.length] ∧ IT H a ns ∧ ns.length ≤ 1000 ∧ (∀ x ∈ ns, 0 ≤ x ∧ x ≤ 4) ∧ ns[i]? = some 0 ∧ ∀ H', Same H H' → Q (.bl true) H'
abbrev n_are_pushes : List Str := ["value", "lamp", "many", "one"]
theorem sc_are_pushes : FnScope n_are_pushes ["value", "lamp", "many"] (defScope s_are_pushes) := ⟨rfl, rfl, rfl, by decide +kernel, rfl, by decide +kernel, by decide +kernel⟩
theorem ok_are_pushes (E : Ev K mg) (D : Dd K mg "are_pushes" s_are_pushes) (C1 : Ca P w K mg base 1 "is_from" ["value", "low", "high"] (spIsFrom K)) : Ca P w K mg base 2 "are_pushes" ["value", "lamp", "many"] (spArePushes K) := by
  refine mk_ca (k := 1) D sc_are_pushes (fun vs H Q E h => ?_) (fun _ _ _ _ _ _ us hl => match us, hl with | [_, _, _], _ => rfl) (fun f cd A outer s H vs Q E' hr h => ?_)
  · obtain ⟨a, ns, i, rfl, _⟩ := h
    rfl
  obtain ⟨a, ns, i, rfl, ha, hn, hx, h0, q⟩ := h
  have hlt : ns.length < sizeLine := small1000 hn
  refine ⟨_, pss_cons (ps_if (pw_or (pt_not (pt_val (pe_isi E.isi E.tup boot_tuple (pv 0) (by rfl) (by rfl))))
      (pw_or (pt_cmpR op_ne (pe_callB call_len_seq (by rfl) E.len PySem.boot_len (pa_cons (pv 0) pa_nil)) (pv 2) (nomark _))
      (pw_or1 (pt_not (pt_val (pe_callB (cr_all rfl) (by rfl) E.all (by decide +kernel) (pa_cons (pe_lcW (own := [("one", 3)]) (g := gName 3) rfl sc_are_pushes.nd (pi_tup (pv 0)) (blkOk_by (N := n_are_pushes) (sc := defScope s_are_pushes) (by decide +kernel))
        (fun _ _ _ _ _ => pg_name (i := 3) sc_are_pushes.nd rfl (.inl rfl))
        (fun _ _ _ _ _ => pe_ca C1 hr (by rfl) (pa_cons (pv 3) (pa_cons pe_int (pa_cons (pe_gi (by rfl) E.push) pa_nil))))) pa_nil))))))).pt
      (pss_one (ps_ret pe_bl)) pss_nil) (pss_one (ps_ret (pe_cmpR op_eq (pe_ix ix_tup (pv 0) (pv 1) (fun _ _ => rfl)) pe_int (nomark _)))), ?_⟩
  refine ⟨.ref a, rfl, .ref a, "tuple", "tuple", true, rfl, ha.ty, by decide +kernel, true, rfl, iteF ?_⟩
  refine ⟨.ref a, rfl, a, _, rfl, .inr ha.sq, .int ns.length, rfl, rfl, _, rfl, iteNS (by rw [List.length_map]) ?_⟩
  refine ⟨.ref a, rfl, a, rfl, ⟨_, ha.sq⟩, lc_walk walk_tup (by rw [List.length_map]; exact hlt) (fun H' s => sqT_same s ha.sq) (fun D i y H => y = .bl true) (fun D i y H H' r _ => r)
    (fun D i x H1 H2 Kc hi s hD hy kc => ?_) (fun D H1 ys nD s e l r => ?_)⟩
  · obtain ⟨rfl, hy⟩ := hy
    obtain ⟨z, rfl, hz⟩ := get_int hy
    have hb := hx z (List.mem_of_getElem? hz)
    exact ⟨rfl, .int z, rfl, .int z, 0, 4, rfl, .inl ⟨z, rfl, kc _ _ (Same.refl _) (by rw [decide_eq_true hb.1, decide_eq_true hb.2]; rfl)⟩⟩
  · have ey : ys = ((List.range (ns.map V.int).length).map fun _ => true).map V.bl := by
      rw [vals_at l r, List.map_map]
      rfl
    subst ey
    refine ⟨D, _, rfl, .inl (.inl e), true, by rw [List.all_eq_true.mpr (by simp)], iteF ?_⟩
    have ha1 := ha.same s
    refine ⟨.ref a, rfl, .int i, rfl, a, _, _, _, rfl, rfl, ha1.sq, atI_nat (int_get h0), rfl, ?_⟩
    show Q (.bl (decide (V.int 0 = V.int 0))) H1
    rw [decide_eq_true rfl]
    exact q H1 s
end
end K31

set_option Elab.async false
set_option linter.all false
set_option maxRecDepth 100000
set_option maxHeartbeats 4000000
namespace K31
open PySem PySem.Spec PyProof.Rows L2
/-! ### the walk, 2: a hall is made -/
theorem g2 {K : PySem.W.Frag} {i j : Nat} {T : Addr} {x y : V} {σ : L2.St} {H : Hp} {Q : L2.St → Hp → Prop} (h : H T = some (.tup [x, y])) (q : Q ((σ.set i (some x)).set j (some y)) H) : gTup K 2 (gCons (gName i) (gCons (gName j) gNil)) (.ref T) σ H Q :=
  ⟨T, [x, y], rfl, .inl (.inl h), rfl, x, [y], rfl, y, [], rfl, rfl, q⟩
theorem sh_same {H H' : Hp} {T : Addr} {o : HO} (s : Same H H') (n : H' T = none) : Same H (upd H' T o) := s.trans (same_upd n)
/-- a row of the tuple of tuples -/
theorem tt_row {H : Hp} {rs : List Addr} {M : Mat} (hl : rs.length = M.length) (h3 : ∀ (i : Nat) (r : Addr) (ns : List Int), rs[i]? = some r → M[i]? = some ns → IT H r ns) {i : Nat} {v : V} (hv : (rs.map V.ref)[i]? = some v) : ∃ r, v = .ref r ∧ M[i]? = some (rowOf M i) ∧ i < M.length ∧ IT H r (rowOf M i) := by
  rw [List.getElem?_map] at hv
  cases e : rs[i]? with
  | none => rw [e] at hv; cases hv
  | some r =>
    rw [e] at hv
    have hi : i < M.length := by
      have := (List.getElem?_eq_some_iff.mp e).1
      omega
    have em : M[i]? = some (rowOf M i) := by
      unfold rowOf
      rw [List.getD_eq_getElem?_getD, List.getElem?_eq_getElem hi]
      rfl
    exact ⟨r, (Option.some.inj hv).symm, em, hi, h3 i r _ e em⟩
theorem tt_at {H : Hp} {rs : List Addr} {M : Mat} (hl : rs.length = M.length) (h3 : ∀ (i : Nat) (r : Addr) (ns : List Int), rs[i]? = some r → M[i]? = some ns → IT H r ns) {i : Nat} (hi : i < M.length) : ∃ r, (rs.map V.ref)[i]? = some (.ref r) ∧ IT H r (rowOf M i) := by
  have e : (rs.map V.ref)[i]? = some (.ref (rs[i]'(by omega))) := by
    rw [List.getElem?_map, List.getElem?_eq_getElem (by omega)]
    rfl
  obtain ⟨r, e2, _, _, h⟩ := tt_row hl h3 e
  rw [e2] at e
  exact ⟨r, e, h⟩
theorem row_at {M : Mat} (S : Shape M) {i j : Nat} (hi : i < M.length) (hj : j < M.length) : (rowOf M i)[j]? = some ((rowOf M i).getD j 0) := by
  have hl := S.row_length hi
  rw [List.getD_eq_getElem?_getD, List.getElem?_eq_getElem (by omega)]
  rfl
def spInit (K : PySem.W.Frag) : Sp := fun vs H Q _ => ∃ (x dx t : Addr) (M : Mat), vs = [.ref x, .ref t] ∧ H x = some (.ins (cH K) dx []) ∧ TT H t M ∧ Shape M ∧ ∀ H', SB x H H' → H' x = some (.ins (cH K) dx [("told", .ref t)]) → Q .non H'
abbrev n_init : List Str := ["self", "pushes", "index", "own", "one", "other"]
section
variable {P : Program} {w : World} {K : PySem.W.Frag} {mg : Str → Option Value} {base : Heap}
theorem sc_init : FnScope n_init ["self", "pushes"] (defScope s_Hall_init) := ⟨rfl, rfl, rfl, by decide +kernel, rfl, by decide +kernel, by decide +kernel⟩
def DdM (K : PySem.W.Frag) (m q : Str) (st : Stmt) (f : Addr) : Prop := ∃ fd, FunD K m q (defArgs st) (defBody st) (defScope st) [] [] f fd
def CaM (P : Program) (w : World) (K : PySem.W.Frag) (mg : Str → Option Value) (base : Heap) (k : Nat) (f : Addr) (ps : List Str) (sp : Sp) : Prop := ∃ fd, FnOk P w K mg base CX0 k f fd ps sp ∧ Binds K fd ps []
theorem ok_init (E : Ev K mg) (D : DdM K "__init__" "Hall.__init__" s_Hall_init (He.ma K (cH K) "__init__")) (C2 : Ca P w K mg base 2 "are_pushes" ["value", "lamp", "many"] (spArePushes K)) : CaM P w K mg base 3 (He.ma K (cH K) "__init__") ["self", "pushes"] (spInit K) := by
  obtain ⟨fd, F⟩ := D
  refine ⟨fd, F.ok sc_init (fun vs H Q E h => ?_) (fun cd A outer s H vs Q E' hr h => ?_), F.bindsN fun _ _ _ _ _ _ us hl => match us, hl with | [_, _], _ => rfl⟩
  · obtain ⟨x, dx, t, M, rfl, _⟩ := h
    rfl
  obtain ⟨x, dx, t, M, rfl, hx, ⟨rs, ht, hl, h3⟩, S, q⟩ := h
  have hrl : (rs.map V.ref).length = M.length := by rw [List.length_map, hl]
  refine ⟨_, PSs.nox (pss_cons (ps_if (pw_or (pt_not (pt_val (pe_isi E.isi E.tup boot_tuple (pv 1) (by rfl) (by rfl))))
      (pw_or1 (pt_not (pt_chain op_le op_le pe_int (pe_callB call_len_seq (by rfl) E.len PySem.boot_len (pa_cons (pv 1) pa_nil)) (pe_gi (by rfl) E.lamps))))).pt pss_never pss_nil)
    (pss_cons (ps_forW rfl (pi_enumK .tu (by rfl) E.enu (pa_cons (pv 1) pa_nil)) (pg_tup rfl (pgs_cons (pg_name (i := 2) sc_init.nd rfl (.inl rfl)) (pgs_cons (pg_name (i := 3) sc_init.nd rfl (.inl rfl)) pgs_nil)))
      (pss_one (ps_if (pt_not (pt_val (pe_ca C2 hr (by rfl) (pa_cons (pv 3) (pa_cons (pv 2) (pa_cons (pe_callB call_len_seq (by rfl) E.len PySem.boot_len (pa_cons (pv 1) pa_nil)) pa_nil)))))) pss_never pss_nil)))
    (pss_cons (ps_forW rfl (pi_enumK .tu (by rfl) E.enu (pa_cons (pv 1) pa_nil)) (pg_tup rfl (pgs_cons (pg_name (i := 4) sc_init.nd rfl (.inl rfl)) (pgs_cons (pg_name (i := 3) sc_init.nd rfl (.inl rfl)) pgs_nil)))
      (pss_one (ps_forW rfl (pi_range2 (by rfl) E.rng (pa_cons (pe_op op_add (pv 4) pe_int) (pa_cons (pe_callB call_len_seq (by rfl) E.len PySem.boot_len (pa_cons (pv 1) pa_nil)) pa_nil))) (pg_name (i := 5) sc_init.nd rfl (.inl rfl))
        (pss_one (ps_if (pt_cmpR op_ne (pe_cmpR op_eq (pe_ix ix_tup (pv 3) (pv 5) (fun _ _ => rfl)) pe_int (nomark _)) (pe_cmpR op_eq (pe_ix ix_tup (pe_ix ix_tup (pv 1) (pv 5) (fun _ _ => rfl)) (pv 4) (fun _ _ => rfl)) pe_int (nomark _)) (nomark _)) pss_never pss_nil)))))
    (pss_one (ps_fld (pv 0) (pv 1) rfl))))), ?_⟩
  have sq : ∀ {H'}, Same H H' → SqT K H' t (rs.map V.ref) := fun s => .inl (.inl (s _ _ ht))
  -- the first test
  refine ⟨.ref t, rfl, .ref t, "tuple", "tuple", true, rfl, .base (.tup ht), by decide +kernel, true, rfl, iteF ?_⟩
  refine ⟨.ref t, rfl, t, _, rfl, .inr (sq (Same.refl _)), 1, _, rfl, rfl, true, congrArg V.bl (decide_eq_true (by rw [hrl]; have := S.pos; omega)), iteT ?_⟩
  refine ⟨_, 8, rfl, rfl, true, congrArg V.bl (decide_eq_true (by rw [hrl]; have := S.le; omega)), iteF ?_⟩
  -- the first loop
  refine ⟨.ref t, rfl, t, _, rfl, sq (Same.refl _), for_walk (walk_enu (xs := rs.map V.ref)) (fun i σ H' => ∃ y2 y3, σ = [some (.ref x), some (.ref t), y2, y3, none, none] ∧ Same H H') ⟨none, none, rfl, Same.refl _⟩ (fun i σ H' _ p => sq p.choose_spec.choose_spec.2) (fun i v σ H1 H2 hi p hy => ?_) (fun σ H1 p => ?_)⟩
  · obtain ⟨y2, y3, rfl, s1⟩ := p
    obtain ⟨T, v1, rfl, nT, rfl, hv⟩ := hy
    obtain ⟨r, rfl, _, hi2, hr0⟩ := tt_row hl h3 hv
    have s2 : Same H (upd H1 T (.tup [.int (i : Nat), .ref r])) := sh_same s1 nT
    refine g2 upd_same ?_
    have hlr := S.row_length hi2
    refine ⟨.ref r, rfl, .int (i : Nat), rfl, .ref t, rfl, t, _, rfl, .inr (sq s2), r, rowOf M i, i, by rw [hrl, hlr]; rfl, hr0.same s2, by have := S.le; omega, S.ent _ (rowOf_mem hi2), ?_, fun H3 s3 => ⟨true, rfl, iteF ⟨_, _, rfl, s2.trans s3⟩⟩⟩
    rw [row_at S hi2 hi2, S.diag i hi2]
  obtain ⟨y2, y3, rfl, s1⟩ := p
  -- the second loop
  refine ⟨.ref t, rfl, t, _, rfl, sq s1, for_walk (walk_enu (xs := rs.map V.ref)) (fun i σ H' => ∃ y2 y3 y4 y5, σ = [some (.ref x), some (.ref t), y2, y3, y4, y5] ∧ Same H H') ⟨_, _, _, _, rfl, s1⟩ (fun i σ H' _ p => ?_) (fun i v σ H2 H3 hi p hy => ?_) (fun σ H2 p => ?_)⟩
  · obtain ⟨_, _, _, _, _, s⟩ := p
    exact sq s
  · obtain ⟨y2, y3, y4, y5, rfl, s2⟩ := p
    obtain ⟨T, v1, rfl, nT, rfl, hv⟩ := hy
    obtain ⟨r, rfl, _, hi2, hr0⟩ := tt_row hl h3 hv
    have s3 : Same H (upd H2 T (.tup [.int (i : Nat), .ref r])) := sh_same s2 nT
    refine g2 upd_same ?_
    have hM := S.le
    refine ⟨.int (i : Nat), rfl, (i : Nat), 1, rfl, rfl, .ref t, rfl, t, _, rfl, .inr (sq s3), (i : Int) + 1, ((rs.map V.ref).length : Nat), rfl, ⟨by omega, by omega, by omega, by omega⟩, ?_⟩
    refine for_walk walk_rng (fun j σ H' => ∃ y5, σ = [some (.ref x), some (.ref t), y2, some (.ref r), some (.int (i : Nat)), y5] ∧ Same H H') ⟨_, rfl, s3⟩ (fun _ _ _ _ _ => trivial) (fun j v σ H4 H5 hj p hy => ?_) (fun σ H4 p => ?_)
    · obtain ⟨y5, rfl, s4⟩ := p
      obtain ⟨rfl, rfl⟩ := hy
      have hjl : i + 1 + j < M.length := by omega
      obtain ⟨r2, e2, hr2⟩ := tt_at hl h3 hjl
      have ej : ((i : Int) + 1 + (j : Int)) = ((i + 1 + j : Nat) : Int) := by omega
      rw [ej]
      refine ⟨.ref r, rfl, .int ((i + 1 + j : Nat) : Int), rfl, r, _, _, _, rfl, rfl, (hr0.same s4).sq, atI_nat (int_get (row_at S hi2 hjl)), rfl, ?_⟩
      refine ⟨.ref t, rfl, .int ((i + 1 + j : Nat) : Int), rfl, t, _, _, _, rfl, rfl, sq s4, atI_nat e2, .int (i : Nat), rfl, r2, _, _, _, rfl, rfl, (hr2.same s4).sq, atI_nat (int_get (row_at S hjl hi2)), rfl, rfl, _, rfl, ?_⟩
      have es : decide (V.int ((rowOf M i).getD (i + 1 + j) 0) = V.int 0) = decide (V.int ((rowOf M (i + 1 + j)).getD i 0) = V.int 0) := by
        have z := S.sym i (i + 1 + j) hi2 hjl
        rw [decide_eq_decide]
        constructor
        · intro h
          rw [z.mp (V.int.inj h)]
        · intro h
          rw [z.mpr (V.int.inj h)]
      refine iteNS (congrArg V.bl es) ⟨_, rfl, s4⟩
    · obtain ⟨y5', rfl, s4⟩ := p
      exact ⟨_, _, _, _, rfl, s4⟩
  · obtain ⟨y2, y3, y4, y5, rfl, s2⟩ := p
    refine ⟨.ref t, rfl, .ref x, rfl, x, cH K, dx, [], rfl, s2 _ _ hx, E.cls, E.told, by decide, ?_⟩
    exact q _ (fun b o n e => by rw [upd_ne n]; exact s2 _ _ e) upd_same
end
end K31

set_option Elab.async false
set_option linter.all false
set_option maxRecDepth 100000
set_option maxHeartbeats 4000000
namespace K31
open PySem PySem.Spec PyProof.Rows L2
/-! ### the walk, 3: sequences of ints compared -/
theorem eqvAll_ints : ∀ a b : List Int, PyData.eqvAll (a.map PyData.int) (b.map PyData.int) = decide (a = b)
  | [], [] => rfl
  | [], _ :: _ => rfl
  | _ :: _, [] => rfl
  | x :: a, y :: b => by
    have ih := eqvAll_ints a b
    show (PyData.eqv (.int x) (.int y) && PyData.eqvAll (a.map PyData.int) (b.map PyData.int)) = decide (x :: a = y :: b)
    rw [ih]
    show (x == y && decide (a = b)) = _
    by_cases h1 : x = y <;> by_cases h2 : a = b <;> simp [h1, h2]
theorem canLay_ints : ∀ ns : List Int, PyData.canLayAll0 (ns.map PyData.int) = true
  | [] => rfl
  | _ :: r => by
    show (true && PyData.canLayAll0 (r.map PyData.int)) = true
    rw [canLay_ints r]
    rfl
theorem dpAll_ints {K : PySem.W.Frag} {H : Hp} : ∀ ns : List Int, DpAll K H (ns.map V.int) (ns.map PyData.int)
  | [] => .nil
  | n :: r => .cons (.int n) (dpAll_ints r)
theorem shaped_L (ns : List Int) : SeqAt.shaped (.list (ns.map PyData.int)) = true := by
  show (PyData.canLayAll0 (ns.map PyData.int) && decide (PyData.depthAll (ns.map PyData.int) + 1 ≤ 64)) = true
  rw [canLay_ints, PySem.W.depth_ints]
  rfl
theorem shaped_T (ns : List Int) : SeqAt.shaped (.tuple (ns.map PyData.int)) = true := by
  show (PyData.canLayAll0 (ns.map PyData.int) && decide (PyData.depthAll (ns.map PyData.int) + 1 ≤ 64)) = true
  rw [canLay_ints, PySem.W.depth_ints]
  rfl
/-- two sequences of ints of one kind, compared -/
def rCmpI (K : PySem.W.Frag) (k : Kd) (f : Bool → Bool) : R2 := fun x y H Q => ∃ a b ns ms, x = .ref a ∧ y = .ref b ∧ SqK K k H a (List.map V.int ns) ∧ SqK K k H b (List.map V.int ms) ∧ Q (.bl (f (decide (ns = ms)))) H
theorem dp_seq {K : PySem.W.Frag} {k : Kd} {H : Hp} {a : Addr} {ns : List Int} (h : SqK K k H a (ns.map V.int)) : ∃ d, Dp K H (.ref a) d ∧ SeqAt.shaped d = true ∧ d = (match k with | .li => PyData.list (ns.map PyData.int) | .tu => PyData.tuple (ns.map PyData.int)) := by
  cases k with
  | li => exact ⟨_, .lst h (dpAll_ints ns), shaped_L ns, rfl⟩
  | tu => exact ⟨_, .tup h (dpAll_ints ns), shaped_T ns, rfl⟩
section
variable {X : Cx}
theorem op_eqI (k : Kd) (hu : X.A.units + 64 < cLine) : OpR X (compareOp .Eq) (rCmpI X.K k id) := by
  intro pins s σ H x y v u Q I rx ry h
  obtain ⟨a, b, ns, ms, rfl, rfl, h1, h2, q⟩ := h
  obtain ⟨d, d1, d2, d3⟩ := dp_seq h1
  obtain ⟨e, e1, e2, e3⟩ := dp_seq h2
  refine op_eqD hu pins s σ H _ _ v u Q I rx ry ⟨d, e, d1, e1, d2, e2, ?_⟩
  have z : PyData.eqv d e = decide (ns = ms) := by
    cases k <;> (subst d3 e3; exact eqvAll_ints ns ms)
  rw [z]
  exact q
theorem op_neI (k : Kd) (hu : X.A.units + 64 < cLine) : OpR X (compareOp .NotEq) (rCmpI X.K k not) := by
  intro pins s σ H x y v u Q I rx ry h
  obtain ⟨a, b, ns, ms, rfl, rfl, h1, h2, q⟩ := h
  obtain ⟨d, d1, d2, d3⟩ := dp_seq h1
  obtain ⟨e, e1, e2, e3⟩ := dp_seq h2
  refine op_neD hu pins s σ H _ _ v u Q I rx ry ⟨d, e, d1, e1, d2, e2, ?_⟩
  have z : PyData.eqv d e = decide (ns = ms) := by
    cases k <;> (subst d3 e3; exact eqvAll_ints ns ms)
  rw [z]
  exact q
end
/-- a list of tuples of ints -/
theorem dpAll_tb {K : PySem.W.Frag} {H : Hp} : ∀ {bs : List TB}, (∀ b ∈ bs, IT H b.1 b.2) → DpAll K H (bs.map fun b => V.ref b.1) (bs.map encT)
  | [], _ => .nil
  | b :: r, h => .cons (.tup (h b (by simp)).sq (dpAll_ints b.2)) (dpAll_tb fun c hc => h c (by simp [hc]))
theorem shaped_tb (bs : List TB) : SeqAt.shaped (.list (bs.map encT)) = true := by
  have h1 : PyData.canLayAll0 (bs.map encT) = true := by
    induction bs with
    | nil => rfl
    | cons b r ih =>
      show (PyData.canLayAll0 (b.2.map PyData.int) && PyData.canLayAll0 (r.map encT)) = true
      rw [canLay_ints, ih]
      rfl
  have h2 : PyData.depthAll (bs.map encT) ≤ 1 := by
    induction bs with
    | nil => exact Nat.zero_le _
    | cons b r ih =>
      show max (encT b).depth (PyData.depthAll (r.map encT)) ≤ 1
      have h1' : PyData.canLayAll0 (r.map encT) = true := (Bool.and_eq_true_iff.mp h1).2
      have := ih h1'
      rw [depthT]
      omega
  show (PyData.canLayAll0 (bs.map encT) && decide (PyData.depthAll (bs.map encT) + 1 ≤ 64)) = true
  rw [h1, decide_eq_true (by omega)]
  rfl
/-- xs != [], xs a list of tuples of ints -/
def rNeTb (K : PySem.W.Frag) : R2 := fun x y H Q => ∃ (a b : Addr) (bs : List TB), x = .ref a ∧ y = .ref b ∧ SqL K H a (bs.map fun b => V.ref b.1) ∧ (∀ b ∈ bs, IT H b.1 b.2) ∧ SqL K H b [] ∧ Q (.bl (!bs.isEmpty)) H
theorem op_neTb {X : Cx} (hu : X.A.units + 64 < cLine) : OpR X (compareOp .NotEq) (rNeTb X.K) := by
  intro pins s σ H x y v u Q I rx ry h
  obtain ⟨a, b, bs, rfl, rfl, h1, h2, h3, q⟩ := h
  refine op_neD hu pins s σ H _ _ v u Q I rx ry ⟨_, .list [], .lst h1 (dpAll_tb h2), .lst h3 .nil, shaped_tb bs, rfl, ?_⟩
  have z : PyData.eqv (.list (bs.map encT)) (.list []) = bs.isEmpty := by cases bs <;> rfl
  rw [z]
  exact q
/-- x in xs, xs a list of tuples of ints -/
def rInTb (K : PySem.W.Frag) : R2 := fun x y H Q => ∃ (a b : Addr) (ns : List Int) (bs : List TB), x = .ref a ∧ y = .ref b ∧ SqT K H a (ns.map V.int) ∧ SqL K H b (bs.map fun b => V.ref b.1) ∧ (∀ b ∈ bs, IT H b.1 b.2) ∧ Q (.bl (decide (ns ∈ bs.map (·.2)))) H
theorem op_inTb {X : Cx} (hu : X.A.units + 65 < cLine) : OpR X (compareOp .In) (rInTb X.K) := by
  intro pins s σ H x y v u Q I rx ry h
  obtain ⟨a, b, ns, bs, rfl, rfl, h1, h2, h3, q⟩ := h
  refine op_inD hu pins s σ H _ _ v u Q I rx ry ⟨_, _, .tup h1 (dpAll_ints ns), .lst h2 (dpAll_tb h3), shaped_T ns, shaped_tb bs, ?_⟩
  have z : ((bs.map encT).any fun z => PyData.eqv z (.tuple (ns.map PyData.int))) = decide (ns ∈ bs.map (·.2)) := by
    rw [Bool.eq_iff_iff, List.any_eq_true, decide_eq_true_eq, List.mem_map]
    constructor
    · rintro ⟨d, hd, e⟩
      obtain ⟨c, hc, rfl⟩ := List.mem_map.mp hd
      have e2 : decide (c.2 = ns) = true := (eqvAll_ints c.2 ns).symm.trans e
      exact ⟨c, hc, of_decide_eq_true e2⟩
    · rintro ⟨c, hc, rfl⟩
      exact ⟨encT c, List.mem_map.mpr ⟨c, hc, rfl⟩, (eqvAll_ints c.2 c.2).trans (decide_eq_true rfl)⟩
  rw [z]
  exact q
end K31

set_option Elab.async false
set_option linter.all false
set_option maxRecDepth 100000
set_option maxHeartbeats 4000000
namespace K31
open PySem PySem.Spec PyProof.Rows L2
/-! ### the walk, 4: a hall asked -/
section
variable {P : Program} {w : World} {K : PySem.W.Frag} {mg : Str → Option Value} {base : Heap}
def spHLen (K : PySem.W.Frag) : Sp := fun vs H Q _ => ∃ (a : Addr) (M : Mat), vs = [.ref a] ∧ HallAt K H a M ∧ Q (.int (M.length : Nat)) H
theorem sc_hlen : FnScope ["self"] ["self"] (defScope s_Hall_len) := ⟨rfl, rfl, rfl, by decide +kernel, rfl, by decide +kernel, by decide +kernel⟩
theorem TT.len {H : Hp} {t : Addr} {M : Mat} (h : TT H t M) : ∃ rs : List Addr, H t = some (.tup (rs.map V.ref)) ∧ (rs.map V.ref).length = M.length := by
  obtain ⟨rs, h1, h2, _⟩ := h
  exact ⟨rs, h1, by rw [List.length_map, h2]⟩
theorem ok_hlen (E : Ev K mg) (D : DdM K "__len__" "Hall.__len__" s_Hall_len (He.ma K (cH K) "__len__")) : CaM P w K mg base 1 (He.ma K (cH K) "__len__") ["self"] (spHLen K) := by
  obtain ⟨fd, F⟩ := D
  refine ⟨fd, F.ok sc_hlen (fun vs H Q E h => ?_) (fun cd A outer s H vs Q E' hr h => ?_), F.bindsN fun _ _ _ _ _ _ us hl => match us, hl with | [_], _ => rfl⟩
  · obtain ⟨a, M, rfl, _⟩ := h
    rfl
  obtain ⟨a, M, rfl, ⟨dx, t, ha, ht⟩, q⟩ := h
  obtain ⟨rs, h1, h2⟩ := ht.len
  refine ⟨_, PSs.nox (pss_one (ps_ret (pe_callB call_len_seq (by rfl) E.len PySem.boot_len (pa_cons (pe_fld (pv 0) rfl) pa_nil)))), ?_⟩
  refine ⟨.ref a, rfl, a, cH K, dx, _, .ref t, rfl, ha, E.cls, E.told, rfl, t, _, rfl, .inr (.inl (.inl h1)), ?_⟩
  rw [h2]
  exact q
/-- len(hall) -/
def rHLen (K : PySem.W.Frag) : List V → Hp → VK → Prop := fun xs H Q => ∃ (a : Addr) (M : Mat), xs = [.ref a] ∧ HallAt K H a M ∧ Shape M ∧ Q (.int (M.length : Nat)) H
theorem call_hlen {X : Cx} (c : CaM X.prog X.w X.K X.mg X.base 1 (He.ma X.K (cH X.K) "__len__") ["self"] (spHLen X.K)) (Mt : Meth X.K (cH X.K) "__len__" (He.ma X.K (cH X.K) "__len__")) (hr : Room 2 X.A) :
    CallR X (.builtin "len") (rHLen X.K) := by
  obtain ⟨fd, F, b⟩ := c
  intro pins s σ H xs us Q I r h
  obtain ⟨a, M, rfl, hh, S, q⟩ := h
  obtain ⟨dx, t, ha, ht⟩ := id hh
  have hle := S.le
  exact call_lenO F hr Mt b pass0 pins s σ H [.ref a] us Q I r ⟨a, dx, _, rfl, ha, a, M, rfl, hh, (M.length : Nat), rfl, by omega, by omega, q⟩
abbrev CaLen (P : Program) (w : World) (K : PySem.W.Frag) (mg : Str → Option Value) (base : Heap) : Prop := CaM P w K mg base 1 (He.ma K (cH K) "__len__") ["self"] (spHLen K)
/-! ### need_hall, need_lamp -/
def spNeedHall (K : PySem.W.Frag) : Sp := fun vs H Q _ => ∃ (a : Addr) (M : Mat), vs = [.ref a] ∧ HallAt K H a M ∧ Q .non H
theorem sc_need_hall : FnScope ["hall"] ["hall"] (defScope s_need_hall) := ⟨rfl, rfl, rfl, by decide +kernel, rfl, by decide +kernel, by decide +kernel⟩
theorem ok_need_hall (E : Ev K mg) (D : Dd K mg "need_hall" s_need_hall) : Ca P w K mg base 1 "need_hall" ["hall"] (spNeedHall K) := by
  refine mk_ca (k := 0) D sc_need_hall (fun vs H Q E h => ?_) (fun _ _ _ _ _ _ us hl => match us, hl with | [_], _ => rfl) (fun f cd A outer s H vs Q E' hr h => ?_)
  · obtain ⟨a, M, rfl, _⟩ := h
    rfl
  obtain ⟨a, M, rfl, ⟨dx, t, ha, ht⟩, q⟩ := h
  refine ⟨_, pss_one (ps_if (pt_not (pt_val (pe_callB (C8.call_isC E.ins) (by rfl) E.isi boot_isinstance (pa_cons (pv 0) (pa_cons (pe_glob (v := .ref (cH K)) (by rfl) E.hall rfl) pa_nil))))) pss_never pss_nil), ?_⟩
  exact ⟨.ref a, rfl, a, dx, _, rfl, ha, true, rfl, iteF q⟩
def spNeedLamp (K : PySem.W.Frag) : Sp := fun vs H Q _ => ∃ (a : Addr) (M : Mat) (i : Int), vs = [.ref a, .int i] ∧ HallAt K H a M ∧ Shape M ∧ 0 ≤ i ∧ i < (M.length : Nat) ∧ Q .non H
theorem sc_need_lamp : FnScope ["hall", "lamp"] ["hall", "lamp"] (defScope s_need_lamp) := ⟨rfl, rfl, rfl, by decide +kernel, rfl, by decide +kernel, by decide +kernel⟩
theorem ok_need_lamp (E : Ev K mg) (D : Dd K mg "need_lamp" s_need_lamp) (C1 : Ca P w K mg base 1 "is_from" ["value", "low", "high"] (spIsFrom K)) (L : CaLen P w K mg base) : Ca P w K mg base 3 "need_lamp" ["hall", "lamp"] (spNeedLamp K) := by
  refine mk_ca (k := 2) D sc_need_lamp (fun vs H Q E h => ?_) (fun _ _ _ _ _ _ us hl => match us, hl with | [_, _], _ => rfl) (fun f cd A outer s H vs Q E' hr h => ?_)
  · obtain ⟨a, M, i, rfl, _⟩ := h
    rfl
  obtain ⟨a, M, i, rfl, hh, S, h0, h1, q⟩ := h
  refine ⟨_, pss_one (ps_if (pt_not (pt_val (pe_ca (C1.mono (by decide)) hr (by rfl) (pa_cons (pv 1) (pa_cons pe_int (pa_cons (pe_op op_sub (pe_callB (call_hlen L E.hlen hr) (by rfl) E.len PySem.boot_len (pa_cons (pv 0) pa_nil)) pe_int) pa_nil)))))) pss_never pss_nil), ?_⟩
  refine ⟨.int i, rfl, .ref a, rfl, a, M, rfl, hh, S, (M.length : Nat), 1, rfl, rfl, .int i, 0, (M.length : Nat) - 1, rfl, .inl ⟨i, rfl, true, ?_, iteF q⟩⟩
  rw [decide_eq_true h0, decide_eq_true (by omega)]
  rfl
/-! ### neighbours_of -/
/-- lamps, as ints -/
def lm (js : List Nat) : List Int := List.map (fun j : Nat => (j : Int)) js
def spNbr (K : PySem.W.Frag) : Sp := fun vs H Q _ => ∃ (a : Addr) (M : Mat) (i : Nat), vs = [.ref a, .int i] ∧ HallAt K H a M ∧ Shape M ∧ i < M.length ∧ ∀ H' t js, Same H H' → H' t = some (.tup ((lm js).map V.int)) → js.length ≤ M.length → (∀ j ∈ js, j < M.length) → Q (.ref t) H'
abbrev n_nbr : List Str := ["hall", "lamp", "other", "many"]
theorem sc_nbr : FnScope n_nbr ["hall", "lamp"] (defScope s_neighbours_of) := ⟨rfl, rfl, rfl, by decide +kernel, rfl, by decide +kernel, by decide +kernel⟩
theorem ok_nbr (E : Ev K mg) (D : Dd K mg "neighbours_of" s_neighbours_of) : Ca P w K mg base 1 "neighbours_of" ["hall", "lamp"] (spNbr K) := by
  refine mk_ca (k := 0) D sc_nbr (fun vs H Q E h => ?_) (fun _ _ _ _ _ _ us hl => match us, hl with | [_, _], _ => rfl) (fun f cd A outer s H vs Q E' hr h => ?_)
  · obtain ⟨a, M, i, rfl, _⟩ := h
    rfl
  obtain ⟨a, M, i, rfl, ⟨dx, t, ha, ⟨rs, ht, hl, h3⟩⟩, S, hi, q⟩ := h
  obtain ⟨r, er, hr0⟩ := tt_at hl h3 hi
  have hlr := S.row_length hi
  refine ⟨_, pss_one (ps_ret (pe_callTy call_tuple_of (by rfl) E.tup boot_tuple (pa_cons (pe_lc (own := [("other", 2), ("many", 3)]) (g := gTup K 2 (gCons (gName 2) (gCons (gName 3) gNil))) (tt := tTest (tOp (rI0 fun i j => .bl (decide (j < i))) (tVar 3) (tC (.int 0)))) rfl sc_nbr.nd
      (pi_enumK .tu (by rfl) E.enu (pa_cons (pe_ix ix_tup (pe_fld (pv 0) rfl) (pv 1) (fun _ _ => rfl)) pa_nil)) (blkOk_by (N := n_nbr) (sc := defScope s_neighbours_of) (by decide +kernel))
      (fun _ _ _ _ _ => pg_tup rfl (pgs_cons (pg_name (i := 2) sc_nbr.nd rfl (.inl rfl)) (pgs_cons (pg_name (i := 3) sc_nbr.nd rfl (.inl rfl)) pgs_nil)))
      (fun _ _ _ _ _ => pts_one (pt_cmpR op_gt (pv 3) pe_int (nomark _))) (fun _ _ _ _ _ => pv 2)) pa_nil))), ?_⟩
  refine ⟨.ref a, rfl, a, cH K, dx, _, .ref t, rfl, ha, E.cls, E.told, rfl, .int i, rfl, t, _, _, _, rfl, rfl, .inl (.inl ht), atI_nat er, r, _, rfl, hr0.sq, fun D nD => ?_⟩
  have W := walk_enu (K := K) (k := .tu) (a := r) (xs := (rowOf M i).map V.int)
  have hxl : ((rowOf M i).map V.int).length = M.length := by rw [List.length_map, hlr]
  refine ⟨fun k m H' => m = M.length - k ∧ k ≤ M.length ∧ Same H H' ∧ ∃ js : List Nat, H' D = some (.lst ((lm js).map V.int)) ∧ js.length ≤ k ∧ ∀ j ∈ js, j < k, ⟨M.length, rfl, Nat.zero_le _, same_upd nD, [], upd_same, Nat.zero_le _, fun _ h => nomatch h⟩, ?_⟩
  rintro k m H' ⟨rfl, hk, s1, js, eD, hjl, hjk⟩
  have hp : SqK K .tu H' r ((rowOf M i).map V.int) := (hr0.same s1).sq
  by_cases hlt : k < M.length
  · refine .inr ⟨W.go k H' (by omega) hp, fun H' => Same H H' ∧ ∃ js : List Nat, H' D = some (.lst ((lm js).map V.int)) ∧ js.length ≤ k + 1 ∧ ∀ j ∈ js, j < k + 1, fun H'' p' => ⟨M.length - (k + 1), by omega, rfl, hlt, p'⟩, fun x H'' hy => ?_⟩
    obtain ⟨T, v, rfl, nT, rfl, hv⟩ := W.yld k H' x H'' (by omega) hp hy
    obtain ⟨z, rfl, hz⟩ := get_int hv
    have s2 : Same H (upd H' T (.tup [.int (k : Nat), .int z])) := sh_same s1 nT
    have eD2 : (upd H' T (.tup [.int (k : Nat), .int z])) D = some (.lst ((lm js).map V.int)) := by rw [upd_ne (ne_of_none eD nT)]; exact eD
    refine g2 upd_same ⟨rfl, .int z, rfl, z, 0, rfl, rfl, _, rfl, ?_⟩
    by_cases hz0 : 0 < z
    · rw [decide_eq_true hz0]
      refine iteT ⟨.int (k : Nat), rfl, _, eD2, ?_, ?_⟩
      · rw [List.length_map]
        show (js.map _).length < _
        rw [List.length_map]
        have := S.le
        exact small1000 (by omega)
      · refine ⟨fun b o e => ?_, js ++ [k], ?_, by simp; omega, fun j hj => ?_⟩
        · rw [upd_ne (ne_of_none e nD)]
          exact s2 _ _ e
        · rw [upd_same]
          simp [lm]
        · rcases List.mem_append.mp hj with hj | hj
          · exact Nat.lt_succ_of_lt (hjk j hj)
          · rw [List.mem_singleton.mp hj]; exact Nat.lt_succ_self _
    · rw [decide_eq_false hz0]
      exact iteF ⟨s2, js, eD2, by omega, fun j hj => Nat.lt_succ_of_lt (hjk j hj)⟩
  · have ek : k = M.length := by omega
    subst ek
    refine .inl ⟨by have z := W.stop H' hp; rw [hxl] at z; exact z, D, _, rfl, .inl ⟨.inl (.inl eD), fun l nl => ?_⟩⟩
    exact q _ l js (s1.trans (same_upd nl)) upd_same hjl hjk
end
end K31

set_option Elab.async false
set_option linter.all false
set_option maxRecDepth 100000
set_option maxHeartbeats 4000000
namespace K31
open PySem PySem.Spec PyProof.Rows L2
/-! ### the walk, 5: wings -/
theorem nodup_len {l : List Nat} {n : Nat} (nd : l.Nodup) (h : ∀ x ∈ l, x < n) : l.length ≤ n := by
  have z := nodup_le (m := List.range n) nd fun x hx => List.mem_range.mpr (h x hx)
  rwa [List.length_range] at z
theorem lm_append (a b : List Nat) : lm (a ++ b) = lm a ++ lm b := by simp [lm]
theorem lm_nil_iff {a : List Nat} : lm a = [] ↔ a = [] := by simp [lm]
theorem lm_len (a : List Nat) : (lm a).length = a.length := by simp [lm]
def keysF (fs : List Nat) : List (L2.Key × V) := fs.map fun j : Nat => (Sum.inl (j : Int), V.bl true)
theorem keysF_val (fs : List Nat) (j : Nat) : (valV (keysF fs) (Sum.inl (j : Int))).isSome = decide (j ∈ fs) := by
  rw [← valV_any, Bool.eq_iff_iff, List.any_eq_true, decide_eq_true_eq]
  constructor
  · rintro ⟨p, hp, e⟩
    obtain ⟨x, hx, rfl⟩ := List.mem_map.mp hp
    have e2 : (Sum.inl (x : Int) : L2.Key) = Sum.inl (j : Int) := of_decide_eq_true e
    have e3 : x = j := Int.ofNat.inj (Sum.inl.inj e2)
    rw [← e3]
    exact hx
  · intro h
    exact ⟨_, List.mem_map.mpr ⟨j, h, rfl⟩, by simp⟩
/-- ints that rearrange lamps are lamps -/
theorem lm_perm {ys : List Int} {fs : List Nat} (h : List.Perm ys (lm fs)) : ∃ ws, ys = lm ws ∧ List.Perm ws fs := by
  have e : ys = lm (ys.map Int.toNat) := by
    have hy : ∀ y ∈ ys, ((y.toNat : Nat) : Int) = y := fun y hy => by
      obtain ⟨j, _, rfl⟩ := List.mem_map.mp (h.mem_iff.mp hy)
      rfl
    have z : ys.map id = ys.map ((fun j : Nat => (j : Int)) ∘ Int.toNat) := List.map_congr_left fun y hy' => (hy y hy').symm
    unfold lm
    rw [List.map_map, ← z, List.map_id]
  refine ⟨ys.map Int.toNat, e, ?_⟩
  have h2 := h.map Int.toNat
  have e2 : (lm fs).map Int.toNat = fs := by
    unfold lm
    rw [List.map_map]
    have : fs.map (Int.toNat ∘ fun j : Nat => (j : Int)) = fs.map id := List.map_congr_left fun y _ => rfl
    rw [this, List.map_id]
  rw [e2] at h2
  exact h2
def spJoined (K : PySem.W.Frag) : Sp := fun vs H Q _ => ∃ (a : Addr) (M : Mat) (i : Nat), vs = [.ref a, .int i] ∧ HallAt K H a M ∧ Shape M ∧ i < M.length ∧ ∀ H' t ws, Same H H' → H' t = some (.tup ((lm ws).map V.int)) → WingOk M ws → Q (.ref t) H'
abbrev n_joined : List Str := ["hall", "lamp", "found", "waiting", "one"]
theorem sc_joined : FnScope n_joined ["hall", "lamp"] (defScope s_joined_to) := ⟨rfl, rfl, rfl, by decide +kernel, rfl, by decide +kernel, by decide +kernel⟩
section
variable {P : Program} {w : World} {K : PySem.W.Frag} {mg : Str → Option Value} {base : Heap}
theorem ok_joined (E : Ev K mg) (D : Dd K mg "joined_to" s_joined_to) (C : Ca P w K mg base 1 "neighbours_of" ["hall", "lamp"] (spNbr K)) : Ca P w K mg base 2 "joined_to" ["hall", "lamp"] (spJoined K) := by
  refine mk_ca (k := 1) D sc_joined (fun vs H Q E h => ?_) (fun _ _ _ _ _ _ us hl => match us, hl with | [_, _], _ => rfl) (fun f cd A outer s H vs Q E' hr h => ?_)
  · obtain ⟨a, M, i, rfl, _⟩ := h
    rfl
  obtain ⟨a, M, i, rfl, hh, S, hi, q⟩ := h
  have hu := hu_of hr
  have hn8 := S.le
  refine ⟨_, pss_cons (ps_par (i := 2) (j := 3) rfl sc_joined.nd rfl rfl (by decide) rfl rfl (pa_cons pe_dnewK (pa_cons (pe_lst (pa_cons (pv 1) pa_nil)) pa_nil)) (by rfl))
    (pss_cons (ps_while PassesOwn.never (pt_cmpR (op_neI .li hr.units) (pv 3) (pe_lst pa_nil) (nomark _))
      (pss_cons (ps_set (i := 4) sc_joined.nd rfl (.inl rfl) (pe_bm0 PySem.F.plainAttrs_list PySem.F.slot_list_pop PySem.F.type_list_pop mt_pop (pv 3)))
      (pss_one (ps_if (pt_cmp (pc_dnotin hu (pv 4) (pv 2)))
        (pss_cons (ps_dput hu (pv 2) (pv 4) pe_bl rfl)
        (pss_one (ps_expr (pe_bm PySem.F.plainAttrs_list PySem.F.slot_list_extend PySem.F.type_list_extend mt_extendT (pv 3) (pa_cons (pe_ca C hr (by rfl) (pa_cons (pv 0) (pa_cons (pv 4) pa_nil))) pa_nil))))) pss_nil))))
    (pss_one (ps_ret (pe_callTy call_tuple_of (by rfl) E.tup boot_tuple (pa_cons (pe_callB (call_sortedDI rfl) (by rfl) E.srt boot_sorted (pa_cons (pv 2) pa_nil)) pa_nil))))), ?_⟩
  refine fun d nd => ⟨.int i, rfl, (by show 1 ≤ sizeLine; decide), fun l nl => ⟨.ref d, .ref l, rfl, ?_⟩⟩
  have s0 : Same H (upd (upd H d (.dK [])) l (.lst [.int i])) := (same_upd nd).trans (same_upd nl)
  have hdl : d ≠ l := fun z => by rw [← z, upd_same] at nl; cases nl
  refine ⟨fun m σ H' => ∃ y4 fs ws, σ = [some (.ref a), some (.int i), some (.ref d), some (.ref l), y4] ∧ Same H H' ∧ H' d = some (.dK (keysF fs)) ∧ H' l = some (.lst ((lm ws).map V.int)) ∧ fs.Nodup ∧ (∀ j ∈ fs, j < M.length) ∧ (∀ j ∈ ws, j < M.length) ∧ (fs ≠ [] ∨ ws ≠ []) ∧
      ws.length ≤ 1 + fs.length * M.length ∧ m = (M.length - fs.length) * (M.length + 1) + ws.length,
    ⟨_, none, [], [i], rfl, s0, by rw [upd_ne hdl, upd_same]; rfl, by rw [upd_same]; rfl, List.nodup_nil, fun _ h => (nomatch h), fun j hj => by rw [List.mem_singleton.mp hj]; exact hi, .inr (by simp), by simp, rfl⟩, ?_⟩
  rintro m σ H1 ⟨y4, fs, ws, rfl, s1, ed, el, nf, hf, hw, hne, hwl, rfl⟩
  have hfl := nodup_len nf hf
  have hmul : fs.length * M.length ≤ 64 := Nat.le_trans (Nat.mul_le_mul hfl hn8) (Nat.le_trans (Nat.mul_le_mul_right 8 hn8) (by decide))
  refine ⟨.ref l, rfl, by decide, fun e ne => ?_⟩
  have sE : Same H1 (upd H1 e (.lst [])) := same_upd ne
  refine ⟨l, e, lm ws, [], rfl, rfl, .inl (.inl (sE _ _ el)), .inl (.inl upd_same), _, rfl, ?_⟩
  by_cases hws : ws = []
  · subst hws
    rw [decide_eq_true (show lm [] = [] from rfl)]
    refine iteF ?_
    have hfne : fs ≠ [] := hne.elim id fun z => absurd rfl z
    refine ⟨.ref d, rfl, d, keysF fs, lm fs, rfl, .inl (sE _ _ ed), ?_, ?_, fun ys p hp _ np => ?_⟩
    · unfold keysF lm
      rw [List.map_map, List.map_map]
      rfl
    · rw [lm_len]
      omega
    · obtain ⟨us, rfl, hus⟩ := lm_perm hp
      refine ⟨p, _, rfl, .inl ⟨.inl (.inl upd_same), fun t nt => ?_⟩⟩
      refine q _ t us ((s1.trans sE).trans ((same_upd np).trans (same_upd nt))) upd_same ⟨fun z => hfne ?_, hus.nodup_iff.mpr nf, fun k hk => hf k (hus.mem_iff.mp hk)⟩
      rw [z] at hus
      exact hus.symm.eq_nil
  · rw [decide_eq_false (fun z => hws (lm_nil_iff.mp z))]
    refine iteT ⟨fun σ' H' => ∃ m', m' < (M.length - fs.length) * (M.length + 1) + ws.length ∧ ∃ y4 fs ws, σ' = [some (.ref a), some (.int i), some (.ref d), some (.ref l), y4] ∧ Same H H' ∧ H' d = some (.dK (keysF fs)) ∧ H' l = some (.lst ((lm ws).map V.int)) ∧ fs.Nodup ∧ (∀ j ∈ fs, j < M.length) ∧ (∀ j ∈ ws, j < M.length) ∧ (fs ≠ [] ∨ ws ≠ []) ∧
      ws.length ≤ 1 + fs.length * M.length ∧ m' = (M.length - fs.length) * (M.length + 1) + ws.length, fun σ' H' h => h, ?_⟩
    obtain ⟨us, one, rfl⟩ : ∃ us one, ws = us ++ [one] := ⟨ws.dropLast, ws.getLast hws, (List.dropLast_concat_getLast hws).symm⟩
    have hone : one < M.length := hw one (by simp)
    have eL : ((lm (us ++ [one])).map V.int) = (lm us).map V.int ++ [.int (one : Nat)] := by rw [lm_append, List.map_append]; rfl
    have elE := sE _ _ el
    rw [eL] at elE
    refine ⟨.ref l, rfl, .inl ⟨rfl, _, .inl (.inl elE)⟩, l, _, .int (one : Nat), rfl, rfl, elE, by simp, ?_⟩
    have eD : ((lm us).map V.int ++ [V.int (one : Nat)]).dropLast = (lm us).map V.int := List.dropLast_concat
    rw [eD]
    have s2 : Same H (upd (upd H1 e (.lst [])) l (.lst ((lm us).map V.int))) := fun b o z => by
      rw [upd_ne]
      · exact sE _ _ (s1 _ _ z)
      · intro hb
        rw [hb] at z
        have z1 := (same_upd (o := .dK []) nd) _ _ z
        rw [nl] at z1
        cases z1
    have ed2 : (upd (upd H1 e (.lst [])) l (.lst ((lm us).map V.int))) d = some (.dK (keysF fs)) := by rw [upd_ne hdl]; exact sE _ _ ed
    refine ⟨.int (one : Nat), rfl, .ref d, rfl, d, _, rfl, DGet.k (k := Sum.inl (one : Int)) ed2, _, rfl, ?_⟩
    rw [keysF_val]
    have hul : us.length < (us ++ [one]).length := by simp
    by_cases hin : one ∈ fs
    · rw [decide_eq_true hin]
      refine iteF ⟨_, ?_, _, fs, us, rfl, s2, ed2, upd_same, nf, hf, fun j hj => hw j (by simp [hj]), .inl (fun z => by rw [z] at hin; exact nomatch hin), by omega, rfl⟩
      omega
    · rw [decide_eq_false hin]
      have hv : valV (keysF fs) (Sum.inl (one : Int)) = none := by
        have z := keysF_val fs one
        rw [decide_eq_false hin] at z
        cases e0 : valV (keysF fs) (Sum.inl (one : Int)) with
        | none => rfl
        | some x => rw [e0] at z; cases z
      have nf2 : (fs ++ [one]).Nodup := nd_snoc nf hin
      have hf2 : ∀ j ∈ fs ++ [one], j < M.length := fun j hj => (List.mem_append.mp hj).elim (hf j) fun z => by rw [List.mem_singleton.mp z]; exact hone
      have hfl2 := nodup_len nf2 hf2
      rw [List.length_append] at hfl2
      have hkl : (keysF fs).length < sizeLine := by
        unfold keysF
        rw [List.length_map]
        exact small1000 (by omega)
      refine iteT ⟨.ref d, rfl, .int (one : Nat), rfl, d, _, rfl, DPut.k (k := Sum.inl (one : Int)) ed2 hkl, ?_⟩
      rw [putK_new _ hv]
      have eK : keysF fs ++ [((Sum.inl (one : Int) : L2.Key), V.bl true)] = keysF (fs ++ [one]) := by simp [keysF]
      rw [eK]
      have s3 : Same H (upd (upd (upd H1 e (.lst [])) l (.lst ((lm us).map V.int))) d (.dK (keysF (fs ++ [one])))) := fun b o z => by
        rw [upd_ne (ne_of_none z nd)]
        exact s2 _ _ z
      have el3 : (upd (upd (upd H1 e (.lst [])) l (.lst ((lm us).map V.int))) d (.dK (keysF (fs ++ [one])))) l = some (.lst ((lm us).map V.int)) := by rw [upd_ne hdl.symm, upd_same]
      refine ⟨.ref l, rfl, .inl ⟨rfl, _, .inl (.inl el3)⟩, .ref a, rfl, .int (one : Nat), rfl, a, M, one, rfl, hh.same s3, S, hone, fun H3 t js s4 ht hjl hjm => ?_⟩
      have hz : ((lm us).map V.int).length + ((lm js).map V.int).length ≤ sizeLine := by
        rw [List.length_map, List.length_map, lm_len, lm_len]
        rw [List.length_append] at hwl
        have := small1000 (show 200 ≤ 1000 by decide)
        omega
      refine ⟨l, t, _, _, rfl, rfl, s4 _ _ el3, ht, hz, ?_⟩
      have hlt3 : ∀ b o, H b = some o → b ≠ l := fun b o z hb => by
        rw [hb] at z
        have z1 := (same_upd (o := .dK []) nd) _ _ z
        rw [nl] at z1
        cases z1
      refine ⟨_, ?_, _, fs ++ [one], us ++ js, rfl, fun b o z => ?_, ?_, ?_, nf2, hf2, fun j hj => (List.mem_append.mp hj).elim (fun z => hw j (by simp [z])) (hjm j), .inl (by simp), ?_, rfl⟩
      · have l1 : (us ++ js).length = us.length + js.length := List.length_append
        have l2 : (fs ++ [one]).length = fs.length + 1 := by simp
        have l3 : (us ++ [one]).length = us.length + 1 := by simp
        have h4 : fs.length + 1 ≤ M.length := by simpa using hfl2
        have e1 : M.length - fs.length = (M.length - (fs.length + 1)) + 1 := by omega
        rw [l1, l2, l3, e1, Nat.add_mul]
        omega
      · rw [upd_ne (hlt3 b o z)]
        exact s4 _ _ (s3 _ _ z)
      · rw [upd_ne hdl]
        exact s4 _ _ upd_same
      · rw [upd_same, lm_append, List.map_append]
      · have l1 : (us ++ js).length = us.length + js.length := List.length_append
        have l2 : (fs ++ [one]).length = fs.length + 1 := by simp
        have l3 : (us ++ [one]).length = us.length + 1 := by simp
        rw [l3] at hwl
        rw [l1, l2, Nat.add_mul]
        omega
end
end K31

set_option Elab.async false
set_option linter.all false
set_option maxRecDepth 100000
set_option maxHeartbeats 4000000
namespace K31
open PySem PySem.Spec PyProof.Rows L2
/-! ### the walk, 6: all wings; weights -/
theorem ps_setLcW {X : Cx} {i : Nat} {y : Str} {py : Pos} {elt tg iter : Expr} {scope : Scope} {own : List (Str × Nat)} {pos spos : Pos} {wi : TI} {g : TG} {te : TE} (hc : X.calm = true) (hN : X.N.Nodup) (hy : X.N[i]? = some y) (hyl : X.env.scope.names.lookup y = some .local)
    (hsw : swapsWith (.ListComp elt [⟨tg, iter, [], 0⟩] scope pos) (some (.Name y py)) spos.line X.env = pure true) (hi : PI X tg iter wi) (ok : BlkOk X.N X.env.scope scope own)
    (hg : ∀ (s : Shared) (H : Hp) (C : Addr) (cl : List (Str × Addr)) (fp : List Addr), PG (X.blk s H scope (compEnvC scope cl C X.env) fp) tg g)
    (he : ∀ (s : Shared) (H : Hp) (C : Addr) (cl : List (Str × Addr)) (fp : List Addr), PE (X.blk s H scope (compEnvC scope cl C X.env) fp) elt te) (hs : ∀ x, foldedSetIterable iter X.env x = pure x := by intro _; rfl) :
    PS X (.Assign [.Name y py] (.ListComp elt [⟨tg, iter, [], 0⟩] scope pos) spos) (tAsg (tLcW wi g te (own.map (·.2))) (gName i)) := ps_setLc (tt := tYes) hc hN hy hyl hsw hi ok hg (fun _ _ _ _ _ => pts_nil) he hs
theorem pi_zipI {X : Cx} {k m : Kd} {e e2 : Expr} {ta : TA} {p pos tpos : Pos} {elts : List Expr} {kk : Nat} (hg : Gl X "zip") (hm : X.mg "zip" = none) (ha : PA X [e, e2] ta)
    (hs : starEach [e, e2] X.env = (false, eval e X.env) :: starEach [e2] X.env := by rfl) (hpl : (backTo pos (starEach [e2] X.env)).any (·.1) = false := by rfl) :
    PI X (.Tuple elts kk tpos) (.Call (.Name "zip" p) [e, e2] [] pos) (iZipK X.K k m ta) := pi_zipK k m hg hm ha hs hpl
theorem hu3 {k : Nat} {A : Around} (hr : Room k A) : A.units + 3 < cLine := Nat.lt_of_le_of_lt (Nat.add_le_add_left (by decide : 3 ≤ 64) _) hr.units
theorem keys_putK {κ : Type} [DecidableEq κ] (kvs : List (κ × V)) (k : κ) (v : V) : (putK kvs k v).map (·.1) = if k ∈ kvs.map (·.1) then kvs.map (·.1) else kvs.map (·.1) ++ [k] := by
  have e : (kvs.any fun kv => decide (kv.1 = k)) = true ↔ k ∈ kvs.map (·.1) := by
    rw [List.any_eq_true, List.mem_map]
    constructor
    · rintro ⟨p, hp, e⟩; exact ⟨p, hp, of_decide_eq_true e⟩
    · rintro ⟨p, hp, e⟩; exact ⟨p, hp, decide_eq_true e⟩
  unfold putK
  by_cases h : k ∈ kvs.map (·.1)
  · rw [if_pos (e.mpr h), if_pos h, List.map_map]
    apply List.map_congr_left
    intro p _
    simp only [Function.comp]
    split <;> rfl
  · rw [if_neg (fun z => h (e.mp z)), if_neg h, List.map_append]
    rfl
def spWings (K : PySem.W.Frag) : Sp := fun vs H Q _ => ∃ (a : Addr) (M : Mat), vs = [.ref a] ∧ HallAt K H a M ∧ Shape M ∧ ∀ H' l (cs : List TB), Same H H' → H' l = some (.lst (cs.map fun b => V.ref b.1)) → cs.length ≤ 8 → (∀ b ∈ cs, IT H' b.1 b.2 ∧ ∃ ws, b.2 = lm ws ∧ WingOk M ws) → Q (.ref l) H'
abbrev n_wings : List Str := ["hall", "lamp"]
theorem sc_wings : FnScope n_wings ["hall"] (defScope s_wings_of) := ⟨rfl, rfl, rfl, by decide +kernel, rfl, by decide +kernel, by decide +kernel⟩
section
variable {P : Program} {w : World} {K : PySem.W.Frag} {mg : Str → Option Value} {base : Heap}
theorem ok_wings (E : Ev K mg) (D : Dd K mg "wings_of" s_wings_of) (L : CaLen P w K mg base) (C : Ca P w K mg base 2 "joined_to" ["hall", "lamp"] (spJoined K)) : Ca P w K mg base 3 "wings_of" ["hall"] (spWings K) := by
  refine mk_ca (k := 2) D sc_wings (fun vs H Q E h => ?_) (fun _ _ _ _ _ _ us hl => match us, hl with | [_], _ => rfl) (fun f cd A outer s H vs Q E' hr h => ?_)
  · obtain ⟨a, M, rfl, _⟩ := h
    rfl
  obtain ⟨a, M, rfl, hh, S, q⟩ := h
  have hu := hu_of hr
  have hn8 := S.le
  refine ⟨_, pss_one (ps_ret (pe_callB (cr_sortedDT rfl (hu3 hr)) (by rfl) E.srt boot_sorted (pa_cons (pe_dcT (own := [("lamp", 1)]) (g := gName 1) rfl hu sc_wings.nd
    (pi_range1 (by rfl) E.rng (pa_cons (pe_callB (call_hlen L E.hlen hr) (by rfl) E.len PySem.boot_len (pa_cons (pv 0) pa_nil)) pa_nil)) (blkOk_by (N := n_wings) (sc := defScope s_wings_of) (by decide +kernel))
    (fun _ _ _ _ _ => pg_name (i := 1) sc_wings.nd rfl (.inl rfl)) (fun _ _ _ _ _ => pe_ca C hr (by rfl) (pa_cons (pv 0) (pa_cons (pv 1) pa_nil))) (fun _ _ _ _ _ => pe_bl)) pa_nil))), ?_⟩
  refine ⟨.ref a, rfl, a, M, rfl, hh, S, (M.length : Nat), rfl, by omega, by omega, fun D nD => ?_⟩
  refine ⟨fun k m H' => m = M.length - k ∧ k ≤ M.length ∧ Same H H' ∧ ∃ (kvs : List (List L2.Key × V)) (ns : List (List Int)), H' D = some (.dT kvs) ∧ kvs.map (·.1) = ns.map (List.map Sum.inl) ∧ (∀ v ∈ ns, ∃ ws, v = lm ws ∧ WingOk M ws) ∧ kvs.length ≤ k, ⟨M.length, rfl, Nat.zero_le _, same_upd nD, [], [], upd_same, rfl, fun _ h => (nomatch h), Nat.zero_le _⟩, ?_⟩
  rintro k m H' ⟨rfl, hk, s1, kvs, ns, eD, hks, hns, hl⟩
  by_cases hlt : k < M.length
  · refine .inr ⟨show k < (M.length : Int).toNat by omega, fun H' => Same H H' ∧ ∃ (kvs : List (List L2.Key × V)) (ns : List (List Int)), H' D = some (.dT kvs) ∧ kvs.map (·.1) = ns.map (List.map Sum.inl) ∧ (∀ v ∈ ns, ∃ ws, v = lm ws ∧ WingOk M ws) ∧ kvs.length ≤ k + 1, fun H'' p' => ⟨M.length - (k + 1), by omega, rfl, hlt, p'⟩, fun x H'' hy => ?_⟩
    obtain ⟨rfl, rfl⟩ := hy
    have e0 : (0 : Int) + (k : Int) = (k : Nat) := by omega
    rw [e0]
    refine ⟨rfl, .ref a, rfl, .int (k : Nat), rfl, a, M, k, rfl, hh.same s1, S, hlt, fun H3 t ws s3 ht W => ?_⟩
    refine ⟨kvs, (lm ws).map Sum.inl, t, rfl, s3 _ _ eD, ?_, ?_, ?_⟩
    · rw [List.map_map]
      exact ht
    · exact small1000 (by omega)
    · obtain ⟨ns2, hk2, hn2⟩ : ∃ ns2 : List (List Int), (putK kvs ((lm ws).map Sum.inl) (.bl true)).map (·.1) = ns2.map (List.map Sum.inl) ∧ ∀ v ∈ ns2, ∃ ws, v = lm ws ∧ WingOk M ws := by
        by_cases hin : (lm ws).map Sum.inl ∈ kvs.map (·.1)
        · exact ⟨ns, by rw [keys_putK, if_pos hin]; exact hks, hns⟩
        · refine ⟨ns ++ [lm ws], by rw [keys_putK, if_neg hin, hks, List.map_append]; rfl, fun v hv => ?_⟩
          rcases List.mem_append.mp hv with hv | hv
          · exact hns v hv
          · rw [List.mem_singleton.mp hv]
            exact ⟨ws, rfl, W⟩
      refine ⟨fun b o e => ?_, putK kvs ((lm ws).map Sum.inl) (.bl true), ns2, upd_same, hk2, hn2, ?_⟩
      · rw [upd_ne (ne_of_none e nD)]
        exact s3 _ _ (s1 _ _ e)
      · have := length_putK kvs ((lm ws).map Sum.inl) (.bl true)
        omega
  · have ek : k = M.length := by omega
    subst ek
    refine .inl ⟨show (M.length : Int).toNat ≤ M.length by omega, D, kvs, ns, rfl, eD, hks, fun v hv => ?_, fun bs cs p hbs hkb hp np => ?_⟩
    · obtain ⟨ws, rfl, W⟩ := hns v hv
      exact fun z => W.ne (lm_nil_iff.mp z)
    · have hlen : cs.length ≤ 8 := by
        have e1 := congrArg List.length hks
        have e2 := congrArg List.length hbs
        rw [List.length_map, List.length_map] at e1
        rw [List.length_map] at e2
        rw [hp.length_eq]
        omega
      refine q _ p cs (s1.trans (same_upd np)) upd_same hlen fun b hb => ?_
      have hb' := hp.mem_iff.mp hb
      refine ⟨.inl ((same_upd np) _ _ (hkb.2 b hb')), hns b.2 ?_⟩
      rw [← hbs]
      exact List.mem_map.mpr ⟨b, hb', rfl⟩
/-! ### weight -/
def spWeight (K : PySem.W.Frag) (k : Kd) : Sp := fun vs H Q _ => ∃ (a wg ld : Addr) (M : Mat) (i : Nat) (ws : List Nat) (load : List Int), vs = [.ref a, .ref wg, .ref ld, .int i] ∧ HallAt K H a M ∧ Shape M ∧ i < M.length ∧ SqT K H wg ((lm ws).map V.int) ∧ WingOk M ws ∧ SqK K k H ld (load.map V.int) ∧ load.length = ws.length ∧
  ∀ H', Same H H' → Q (.int (wgt M ws load i)) H'
abbrev n_weight : List Str := ["hall", "wing", "load", "lamp", "other", "many", "own"]
theorem sc_weight : FnScope n_weight ["hall", "wing", "load", "lamp"] (defScope s_weight) := ⟨rfl, rfl, rfl, by decide +kernel, rfl, by decide +kernel, by decide +kernel⟩
theorem WingOk.len {M : Mat} {ws : List Nat} (W : WingOk M ws) : ws.length ≤ M.length := nodup_len W.nd W.lt
theorem ok_weight (k : Kd) (E : Ev K mg) (D : Dd K mg "weight" s_weight) : Ca P w K mg base 1 "weight" ["hall", "wing", "load", "lamp"] (spWeight K k) := by
  refine mk_ca (k := 0) D sc_weight (fun vs H Q E h => ?_) (fun _ _ _ _ _ _ us hl => match us, hl with | [_, _, _, _], _ => rfl) (fun f cd A outer s H vs Q E' hr h => ?_)
  · obtain ⟨a, wg, ld, M, i, ws, load, rfl, _⟩ := h
    rfl
  obtain ⟨a, wg, ld, M, i, ws, load, rfl, ⟨dx, t, ha, rs, ht, hl, h3⟩, S, hi, hwg, W, hld, hll, q⟩ := h
  have hwl := W.len
  have hn8 := S.le
  obtain ⟨r, er, hr0⟩ := tt_at hl h3 hi
  refine ⟨_, pss_one (ps_ret (pe_callB (cr_sum rfl) (by rfl) E.sum boot_sum (pa_cons (pe_lcW (own := [("many", 5), ("own", 6)]) (g := gTup K 2 (gCons (gName 5) (gCons (gName 6) gNil))) rfl sc_weight.nd
    (pi_zipI (k := .li) (m := k) (by rfl) E.zip (pa_cons (pe_lcW (own := [("other", 4)]) (g := gName 4) (te := tOp (rIxT K) (tOp (rIxT K) (tFld K (tVar 0) "told") (tVar 3)) (tVar 4)) rfl sc_weight.nd (pi_tup (pv 1)) (blkOk_by (N := n_weight) (sc := defScope s_weight) (by decide +kernel))
        (fun _ _ _ _ _ => pg_name (i := 4) sc_weight.nd rfl (.inl rfl)) (fun _ _ _ _ _ => pe_ix ix_tup (pe_ix ix_tup (pe_fld (pv 0) rfl) (pv 3) (fun _ _ => rfl)) (pv 4) (fun _ _ => rfl))) (pa_cons (pv 2) pa_nil)))
    (blkOk_by (N := n_weight) (sc := defScope s_weight) (by decide +kernel)) (fun _ _ _ _ _ => pg_tup rfl (pgs_cons (pg_name (i := 5) sc_weight.nd rfl (.inl rfl)) (pgs_cons (pg_name (i := 6) sc_weight.nd rfl (.inl rfl)) pgs_nil)))
    (fun _ _ _ _ _ => pe_op op_mul (pv 5) (pv 6))) pa_nil))), ?_⟩
  have hxl : ((lm ws).map V.int).length = ws.length := by rw [List.length_map, lm_len]
  refine ⟨.ref wg, rfl, wg, rfl, ⟨_, hwg⟩, lc_walk walk_tup (by rw [hxl]; exact small1000 (by omega)) (fun H' s => sqT_same s hwg) (fun D j y H => ∃ z, ws[j]? = some z ∧ y = .int ((rowOf M i).getD z 0)) (fun D j y H H' h _ => h) (fun D j x H1 H2 Kc hj s hD hy kc => ?_) (fun D1 H1 ys nD1 s1 e1 l1 r1 => ?_)⟩
  · obtain ⟨rfl, hy⟩ := hy
    obtain ⟨z0, rfl, hz0⟩ := get_int hy
    obtain ⟨z, hz, rfl⟩ : ∃ z : Nat, ws[j]? = some z ∧ z0 = (z : Int) := by
      unfold lm at hz0
      rw [List.getElem?_map] at hz0
      cases e : ws[j]? with
      | none => rw [e] at hz0; cases hz0
      | some z => rw [e] at hz0; exact ⟨z, rfl, (Option.some.inj hz0).symm⟩
    have hzl := W.lt z (List.mem_of_getElem? hz)
    exact ⟨rfl, .ref a, rfl, a, cH K, dx, _, .ref t, rfl, s _ _ ha, E.cls, E.told, rfl, .int (i : Nat), rfl, t, _, _, _, rfl, rfl, .inl (.inl (s _ _ ht)), atI_nat er, .int (z : Nat), rfl, r, _, _, _, rfl, rfl, (hr0.same s).sq, atI_nat (int_get (row_at S hi hzl)), kc _ _ (Same.refl _) ⟨z, hz, rfl⟩⟩
  · have ey : ys = (ws.map fun z => (rowOf M i).getD z 0).map V.int := by
      apply List.ext_getElem?
      intro j
      rw [List.getElem?_map, List.getElem?_map]
      rcases Nat.lt_or_ge j ys.length with hj | hj
      · obtain ⟨z, hz, e⟩ := r1 j _ (List.getElem?_eq_getElem hj)
        rw [List.getElem?_eq_getElem hj, e, hz]
        rfl
      · rw [List.getElem?_eq_none hj, List.getElem?_eq_none (by omega)]
        rfl
    subst ey
    have hld1 : SqK K k H1 ld (load.map V.int) := sqK_same s1 hld
    have hlx : ((ws.map fun z => (rowOf M i).getD z 0).map V.int).length = (load.map V.int).length := by simp [hll]
    refine ⟨.ref ld, rfl, D1, ld, _, _, rfl, .inl (.inl e1), hld1, lc_walk (walk_zip hlx) (by rw [List.length_map, List.length_map]; exact small1000 (by omega)) (fun H' s => ⟨.inl (.inl (s _ _ e1)), sqK_same s hld1⟩)
      (fun D j y H => ∃ z v, ws[j]? = some z ∧ load[j]? = some v ∧ y = .int ((rowOf M i).getD z 0 * v)) (fun D j y H H' h _ => h) (fun D j x H2 H3 Kc hj s2 hD hy kc => ?_) (fun D2 H2 ys nD2 s2 e2 l2 r2 => ?_)⟩
    · obtain ⟨T, x1, x2, rfl, nT, rfl, hx1, hx2⟩ := hy
      obtain ⟨z0, rfl, hz0⟩ := get_int hx1
      obtain ⟨v, rfl, hv⟩ := get_int hx2
      rw [List.getElem?_map] at hz0
      cases hz : ws[j]? with
      | none => rw [hz] at hz0; cases hz0
      | some z =>
        rw [hz] at hz0
        obtain rfl : (rowOf M i).getD z 0 = z0 := Option.some.inj hz0
        have hzl := W.lt z (List.mem_of_getElem? hz)
        have hb := row_nn S hi hzl
        exact g2 upd_same ⟨rfl, .int ((rowOf M i).getD z 0), rfl, .int v, rfl, _, _, rfl, rfl, .inl ⟨by omega, by omega⟩, kc _ _ (same_upd nT) ⟨z, v, hz, hv, rfl⟩⟩
    · have ey : ys = (List.zipWith (· * ·) (ws.map fun z => (rowOf M i).getD z 0) load).map V.int := by
        apply List.ext_getElem?
        intro j
        rw [List.getElem?_map, List.getElem?_zipWith, List.getElem?_map]
        rcases Nat.lt_or_ge j ys.length with hj | hj
        · obtain ⟨z, v, hz, hv, e⟩ := r2 j _ (List.getElem?_eq_getElem hj)
          rw [List.getElem?_eq_getElem hj, e, hz, hv]
          rfl
        · have hj2 : ws.length ≤ j := by
            rw [List.length_map, List.length_map] at l2
            omega
          rw [List.getElem?_eq_none hj, List.getElem?_eq_none hj2]
          rfl
      subst ey
      exact ⟨D2, _, rfl, .inl (.inl e2), q _ (s1.trans s2)⟩
end
end K31

set_option Elab.async false
set_option linter.all false
set_option maxRecDepth 100000
set_option maxHeartbeats 4000000
namespace K31
open PySem PySem.Spec PyProof.Rows L2
/-! ### the walk, 7: loads; all wings are ending -/
section
variable {P : Program} {w : World} {K : PySem.W.Frag} {mg : Str → Option Value} {base : Heap}
theorem at_lm {ws : List Nat} {j : Nat} {v : V} (h : ((lm ws).map V.int)[j]? = some v) : ∃ k : Nat, v = .int (k : Nat) ∧ ws[j]? = some k := by
  obtain ⟨z, rfl, hz⟩ := get_int h
  unfold lm at hz
  rw [List.getElem?_map] at hz
  cases e : ws[j]? with
  | none => rw [e] at hz; cases hz
  | some k => rw [e] at hz; exact ⟨k, by rw [← Option.some.inj hz], rfl⟩
theorem flat_rep {α : Type} (n : Nat) (x : α) : (List.replicate n [x]).flatten = List.replicate n x := by
  induction n with
  | zero => rfl
  | succ n ih => rw [List.replicate_succ, List.flatten_cons, ih]; rfl
theorem rep_int (n : Nat) (x : Int) : List.replicate n (V.int x) = (List.replicate n x).map V.int := by rw [List.map_replicate]
def spLeast (K : PySem.W.Frag) : Sp := fun vs H Q _ => ∃ (a wg : Addr) (M : Mat) (u : Vec) (ws : List Nat), vs = [.ref a, .ref wg, .int 0] ∧ HallAt K H a M ∧ Shape M ∧ Wit M u ∧ SqT K H wg ((lm ws).map V.int) ∧ WingOk M ws ∧
  ∀ H' t load, Same H H' → H' t = some (.tup (List.map V.int load)) → load.length = ws.length → (∀ x ∈ load, 1 ≤ x ∧ x ≤ 400) → Q (.ref t) H'
abbrev n_least : List Str := ["hall", "wing", "more", "load", "later", "lamp", "own"]
theorem sc_least : FnScope n_least ["hall", "wing", "more"] (defScope s_least_over) := ⟨rfl, rfl, rfl, by decide +kernel, rfl, by decide +kernel, by decide +kernel⟩
theorem ok_least (E : Ev K mg) (D : Dd K mg "least_over" s_least_over) (C : Ca P w K mg base 1 "weight" ["hall", "wing", "load", "lamp"] (spWeight K .li)) : Ca P w K mg base 2 "least_over" ["hall", "wing", "more"] (spLeast K) := by
  refine mk_ca (k := 1) D sc_least (fun vs H Q E h => ?_) (fun _ _ _ _ _ _ us hl => match us, hl with | [_, _, _], _ => rfl) (fun f cd A outer s H vs Q E' hr h => ?_)
  · obtain ⟨a, wg, M, u, ws, rfl, _⟩ := h
    rfl
  obtain ⟨a, wg, M, u, ws, rfl, hh, S, W, hwg, O, q⟩ := h
  have hwl := O.len
  have hn8 := S.le
  have hw1 : 1 ≤ ws.length := by
    cases e : ws with
    | nil => exact absurd e O.ne
    | cons x r => simp
  have hxl : ((lm ws).map V.int).length = ws.length := by rw [List.length_map, lm_len]
  refine ⟨_, pss_cons (ps_set (i := 3) sc_least.nd rfl (.inr rfl) (pe_op op_rep (pe_lst (pa_cons pe_int pa_nil)) (pe_callB call_len_seq (by rfl) E.len PySem.boot_len (pa_cons (pv 1) pa_nil))))
    (pss_cons (ps_set (i := 4) sc_least.nd rfl (.inl rfl) (pe_lst pa_nil))
    (pss_cons (ps_while PassesOwn.never (pt_cmpR (op_neI .li hr.units) (pv 4) (pv 3) (nomark _))
      (C8.pss_cut (ps_set (i := 3) sc_least.nd rfl (.inr rfl) (pe_ifExp (pt_cmpR (op_neI .li hr.units) (pv 4) (pe_lst pa_nil) (nomark _)) (pv 4) (pv 3)))
      (pss_cons (ps_setLcW (i := 4) (own := [("lamp", 5), ("own", 6)]) (g := gTup K 2 (gCons (gName 5) (gCons (gName 6) gNil))) rfl sc_least.nd rfl rfl (sw_true rfl rfl rfl (by decide +kernel))
          (pi_zipI (k := .tu) (m := .li) (by rfl) E.zip (pa_cons (pv 1) (pa_cons (pv 3) pa_nil))) (blkOk_by (N := n_least) (sc := defScope s_least_over) (by decide +kernel))
          (fun _ _ _ _ _ => pg_tup rfl (pgs_cons (pg_name (i := 5) sc_least.nd rfl (.inl rfl)) (pgs_cons (pg_name (i := 6) sc_least.nd rfl (.inl rfl)) pgs_nil)))
          (fun _ _ _ _ _ => pe_callB (call_max2 rfl) (by rfl) E.max boot_max (pa_cons (pv 6) (pa_cons (pe_op op_fdiv (pe_op op_add (pe_op op_add (pe_ca C hr (by rfl) (pa_cons (pv 0) (pa_cons (pv 1) (pa_cons (pv 3) (pa_cons (pv 5) pa_nil))))) (pv 2)) pe_int) pe_int) pa_nil))))
      (pss_one (ps_if (pt_cmpR op_gt (pe_callB (cr_max rfl) (by rfl) E.max boot_max (pa_cons (pv 4) pa_nil)) (pe_gi (by rfl) E.load) (nomark _)) pss_never pss_nil)))))
    (pss_one (ps_ret (pe_callTy call_tuple_of (by rfl) E.tup boot_tuple (pa_cons (pv 3) pa_nil)))))), ?_⟩
  -- load = [1] * len(wing)
  refine ⟨by show 1 ≤ sizeLine; decide, fun l0 n0 => ?_⟩
  have s0 : Same H (upd H l0 (.lst [.int 1])) := same_upd n0
  refine ⟨.ref wg, rfl, wg, _, rfl, .inr (sqT_same s0 hwg), l0, _, _, rfl, rfl, upd_same, by rw [hxl]; omega, by rw [hxl]; omega, ?_, fun ld nl => ?_⟩
  · rw [hxl]
    show 1 * ((ws.length : Nat) : Int).toNat ≤ sizeLine
    have := small1000 (show ws.length ≤ 1000 by omega)
    omega
  have s1 : Same H (upd (upd H l0 (.lst [.int 1])) ld (.lst (List.replicate (((((lm ws).map V.int).length : Nat) : Int).toNat) [V.int 1]).flatten)) := s0.trans (same_upd nl)
  have e1 : (List.replicate (((((lm ws).map V.int).length : Nat) : Int).toNat) [V.int 1]).flatten = (ones ws.length).map V.int := by
    rw [flat_rep, hxl]
    exact rep_int ws.length 1
  rw [e1] at s1 ⊢
  -- later = []
  refine ⟨Nat.zero_le _, fun lt nt => ?_⟩
  have L0 := LoadOk.start W O
  refine ⟨fun m σ H' => ∃ ld lt y5 y6 load lat, σ = [some (.ref a), some (.ref wg), some (.int 0), some (.ref ld), some (.ref lt), y5, y6] ∧ Same H H' ∧ H' ld = some (.lst (List.map V.int load)) ∧ H' lt = some (.lst (List.map V.int lat)) ∧ LoadOk ws u load ∧ (lat = [] ∨ lat = stepW M ws load) ∧
      m = ((ws.map fun k => u.getD k 0).sum - load.sum).toNat + (if lat = [] then 1 else 0),
    ⟨_, ld, lt, none, none, ones ws.length, [], rfl, s1.trans (same_upd nt), (same_upd nt) _ _ upd_same, upd_same, L0, .inl rfl, rfl⟩, ?_⟩
  rintro m σ H1 ⟨ld, lt, y5, y6, load, lat, rfl, s2, eld, elt, L, hlat, rfl⟩
  have hlen := L.len
  have hne : load ≠ [] := fun z => by rw [z] at hlen; simp at hlen; omega
  have hstl : (stepW M ws load).length = ws.length := stepW_len hlen
  have hsn : stepW M ws load ≠ [] := fun z => by rw [z] at hstl; simp at hstl; omega
  refine ⟨.ref lt, rfl, .ref ld, rfl, lt, ld, lat, load, rfl, rfl, .inl (.inl elt), .inl (.inl eld), _, rfl, ?_⟩
  by_cases hst : lat = load
  · rw [decide_eq_true hst]
    refine iteF ⟨.ref ld, rfl, ld, _, rfl, .inl ⟨.inl (.inl eld), fun t nt => ?_⟩⟩
    exact q _ t load (s2.trans (same_upd nt)) upd_same hlen (L.le400 W O)
  · rw [decide_eq_false hst]
    -- the load of this turn
    obtain ⟨load2, h2, L2, hlat2, hm⟩ : ∃ load2, load2 = (if lat = [] then load else lat) ∧ LoadOk ws u load2 ∧ load2 ≠ [] ∧ ((ws.map fun k => u.getD k 0).sum - load2.sum).toNat < ((ws.map fun k => u.getD k 0).sum - load.sum).toNat + (if lat = [] then 1 else 0) := by
      refine ⟨_, rfl, ?_, ?_, ?_⟩
      · split
        · exact L
        · rename_i hl0
          rw [hlat.resolve_left hl0]
          exact L.step S W O
      · split
        · exact hne
        · rename_i hl0
          exact hl0
      · split
        · omega
        · rename_i hl0
          have e := hlat.resolve_left hl0
          have g := stepW_grows (P := M) hlen (by rw [← e]; exact hst)
          have b := (L.step S W O).sum_le
          rw [e]
          omega
    refine iteT ⟨fun σ' H' => ∃ m', m' < ((ws.map fun k => u.getD k 0).sum - load.sum).toNat + (if lat = [] then 1 else 0) ∧ ∃ ld lt y5 y6 load lat, σ' = [some (.ref a), some (.ref wg), some (.int 0), some (.ref ld), some (.ref lt), y5, y6] ∧ Same H H' ∧ H' ld = some (.lst (List.map V.int load)) ∧ H' lt = some (.lst (List.map V.int lat)) ∧ LoadOk ws u load ∧ (lat = [] ∨ lat = stepW M ws load) ∧
      m' = ((ws.map fun k => u.getD k 0).sum - load.sum).toNat + (if lat = [] then 1 else 0), fun σ' H' h => h, ?_⟩
    refine ⟨fun σ' H' => ∃ ld2, σ' = [some (.ref a), some (.ref wg), some (.int 0), some (.ref ld2), some (.ref lt), y5, y6] ∧ Same H H' ∧ H' ld2 = some (.lst (load2.map V.int)), ?_, ?_⟩
    · refine ⟨.ref lt, rfl, Nat.zero_le _, fun e ne => ?_⟩
      have sE : Same H1 (upd H1 e (.lst [])) := same_upd ne
      refine ⟨lt, e, lat, [], rfl, rfl, .inl (.inl (sE _ _ elt)), .inl (.inl upd_same), _, rfl, ?_⟩
      by_cases hl0 : lat = []
      · rw [decide_eq_true hl0]
        rw [if_pos hl0] at h2
        exact iteF ⟨.ref ld, rfl, ld, rfl, s2.trans sE, by rw [h2]; exact sE _ _ eld⟩
      · rw [decide_eq_false hl0]
        rw [if_neg hl0] at h2
        exact iteT ⟨.ref lt, rfl, lt, rfl, s2.trans sE, by rw [h2]; exact sE _ _ elt⟩
    · rintro σ' H2 ⟨ld2, rfl, s3, eld2⟩
      have hl2 := L2.len
      have hxy : ((lm ws).map V.int).length = (load2.map V.int).length := by rw [hxl, List.length_map, hl2]
      refine ⟨.ref wg, rfl, .ref ld2, rfl, wg, ld2, _, _, rfl, sqT_same s3 hwg, .inl (.inl eld2), lc_walk (walk_zip hxy) (by rw [hxl]; exact small1000 (by omega)) (fun H' s => ⟨sqT_same (s3.trans s) hwg, .inl (.inl (s _ _ eld2))⟩)
        (fun D j y H => ∃ k x, ws[j]? = some k ∧ load2[j]? = some x ∧ y = .int (max x ((wgt M ws load2 k + 1) / 2))) (fun D j y H H' h _ => h) (fun D j x H3 H4 Kc hj s4 hD hy kc => ?_) (fun D2 H3 ys nD2 s4 e2 l2 r2 => ?_)⟩
      · obtain ⟨T, x1, x2, rfl, nT, rfl, hx1, hx2⟩ := hy
        obtain ⟨k, rfl, hk⟩ := at_lm hx1
        obtain ⟨x, rfl, hx⟩ := get_int hx2
        have hkl := O.lt k (List.mem_of_getElem? hk)
        have s5 : Same H (upd H3 T (.tup [.int (k : Nat), .int x])) := (s3.trans s4).trans (same_upd nT)
        have eld5 : (upd H3 T (.tup [V.int (k : Nat), V.int x])) ld2 = some (.lst (load2.map V.int)) := (same_upd nT) _ _ (s4 _ _ eld2)
        refine g2 upd_same ⟨rfl, .int x, rfl, .ref a, rfl, .ref wg, rfl, .ref ld2, rfl, .int (k : Nat), rfl, a, wg, ld2, M, k, ws, load2, rfl, hh.same s5, S, hkl, sqT_same s5 hwg, O, .inl (.inl eld5), hl2, fun H6 s6 => ?_⟩
        refine ⟨.int 0, rfl, _, _, rfl, rfl, _, _, rfl, rfl, _, _, rfl, rfl, ⟨by decide, by decide⟩, _, _, rfl, kc _ _ ((same_upd nT).trans s6) ⟨k, x, hk, hx, ?_⟩⟩
        congr 1
        have e0 : (wgt M ws load2 k + 0 + 1) / 2 = (wgt M ws load2 k + 1) / 2 := by rw [Int.add_zero]
        rw [e0]
        split <;> omega
      · have ey : ys = (stepW M ws load2).map V.int := by
          apply List.ext_getElem?
          intro j
          rw [List.getElem?_map]
          rcases Nat.lt_or_ge j ys.length with hj | hj
          · obtain ⟨k, x, hk, hx, e⟩ := r2 j _ (List.getElem?_eq_getElem hj)
            rw [List.getElem?_eq_getElem hj, e, stepW_at hk hx]
            rfl
          · rw [List.getElem?_eq_none hj, List.getElem?_eq_none (by rw [stepW_len hl2]; omega)]
            rfl
        subst ey
        have L3 := L2.step S W O
        have h400 := L3.le400 W O
        have hst3 := stepW_len (P := M) hl2
        refine ⟨.ref D2, rfl, D2, _, rfl, .inl (.inl e2), by omega, fun mx hmm hmx => ⟨mx, 400, rfl, rfl, _, rfl, ?_⟩⟩
        rw [decide_eq_false (by have := h400 mx hmm; omega)]
        refine iteF ⟨_, ?_, ld2, D2, _, _, load2, stepW M ws load2, rfl, s3.trans s4, s4 _ _ eld2, e2, L2, .inr rfl, rfl⟩
        rw [if_neg (fun z => by rw [z] at hst3; simp at hst3; omega)]
        exact hm
end
end K31

set_option Elab.async false
set_option linter.all false
set_option maxRecDepth 100000
set_option maxHeartbeats 4000000
namespace K31
open PySem PySem.Spec PyProof.Rows L2
/-! ### the walk, 8: no wing of ours is flat -/
def sgn (own here : Int) : Int := if 2 * own = here then 0 else if here < 2 * own then 1 else -1
theorem load_fn : ∀ {ws : List Nat} {load : List Int}, ws.Nodup → load.length = ws.length → (∀ x ∈ load, 1 ≤ x) → ∃ f : Nat → Int, ws.map f = load ∧ ∀ k ∈ ws, 0 < f k
  | [], [], _, _, _ => ⟨fun _ => 1, rfl, fun _ h => nomatch h⟩
  | k :: ws, x :: load, nd, hl, h1 => by
    obtain ⟨hk, nd2⟩ := List.nodup_cons.mp nd
    obtain ⟨f, hf, hp⟩ := load_fn nd2 (by simpa using hl) (fun y hy => h1 y (by simp [hy]))
    refine ⟨fun m => if m = k then x else f m, ?_, fun m hm => ?_⟩
    · rw [List.map_cons, if_pos rfl]
      congr 1
      rw [← hf]
      apply List.map_congr_left
      intro m hm
      rw [if_neg (fun z => hk (by rw [← z]; exact hm))]
    · show 0 < (if m = k then x else f m)
      split
      · have := h1 x (by simp)
        omega
      · rename_i hmk
        exact hp m ((List.mem_cons.mp hm).resolve_left hmk)
theorem signs_not {M : Mat} {u : Vec} (S : Shape M) (W : Wit M u) {ws : List Nat} (O : WingOk M ws) {load ss : List Int} (hl : load.length = ws.length) (h1 : ∀ x ∈ load, 1 ≤ x)
    (hs : ∀ (j k : Nat) (x : Int), ws[j]? = some k → load[j]? = some x → ss[j]? = some (sgn x (wgt M ws load k))) : ss ≠ List.replicate ws.length 0 := by
  intro e
  obtain ⟨f, hf, hp⟩ := load_fn O.nd hl h1
  refine not_flat S W O f hp fun k hk => ?_
  obtain ⟨j, hj⟩ := List.mem_iff_getElem?.mp hk
  have hx : load[j]? = some (f k) := by rw [← hf, List.getElem?_map, hj]; rfl
  have z := hs j k (f k) hj hx
  have hjl := (List.getElem?_eq_some_iff.mp hj).1
  rw [e, List.getElem?_replicate, if_pos hjl] at z
  have z2 := Option.some.inj z
  rw [hf]
  unfold sgn at z2
  split at z2
  · assumption
  · split at z2
    · cases z2
    · cases z2
section
variable {P : Program} {w : World} {K : PySem.W.Frag} {mg : Str → Option Value} {base : Heap}
def spWord (K : PySem.W.Frag) : Sp := fun vs H Q _ => ∃ (a wg ld : Addr) (M : Mat) (u : Vec) (ws : List Nat) (load : List Int), vs = [.ref a, .ref wg, .ref ld] ∧ HallAt K H a M ∧ Shape M ∧ Wit M u ∧ SqT K H wg ((lm ws).map V.int) ∧ WingOk M ws ∧ SqT K H ld (load.map V.int) ∧ load.length = ws.length ∧ (∀ x ∈ load, 1 ≤ x ∧ x ≤ 400) ∧
  ∀ H' v, Same H H' → (v = .non ∨ v = .str "ending" ∨ v = .str "wild") → Q v H'
abbrev n_word : List Str := ["hall", "wing", "load", "signs", "lamp", "own", "here", "sign", "word"]
theorem sc_word : FnScope n_word ["hall", "wing", "load"] (defScope s_word_of) := ⟨rfl, rfl, rfl, by decide +kernel, rfl, by decide +kernel, by decide +kernel⟩
theorem ok_word (E : Ev K mg) (D : Dd K mg "word_of" s_word_of) (C : Ca P w K mg base 1 "weight" ["hall", "wing", "load", "lamp"] (spWeight K .tu)) : Ca P w K mg base 2 "word_of" ["hall", "wing", "load"] (spWord K) := by
  refine mk_ca (k := 1) D sc_word (fun vs H Q E h => ?_) (fun _ _ _ _ _ _ us hl => match us, hl with | [_, _, _], _ => rfl) (fun f cd A outer s H vs Q E' hr h => ?_)
  · obtain ⟨a, wg, ld, M, u, ws, load, rfl, _⟩ := h
    rfl
  obtain ⟨a, wg, ld, M, u, ws, load, rfl, hh, S, W, hwg, O, hld, hll, hb, q⟩ := h
  have hwl := O.len
  have hn8 := S.le
  have hxl : ((lm ws).map V.int).length = ws.length := by rw [List.length_map, lm_len]
  refine ⟨_, pss_cons (ps_set (i := 3) sc_word.nd rfl (.inl rfl) (pe_lst pa_nil))
    (pss_cons (ps_forW rfl (pi_zipI (k := .tu) (m := .tu) (by rfl) E.zip (pa_cons (pv 1) (pa_cons (pv 2) pa_nil))) (pg_tup rfl (pgs_cons (pg_name (i := 4) sc_word.nd rfl (.inl rfl)) (pgs_cons (pg_name (i := 5) sc_word.nd rfl (.inl rfl)) pgs_nil)))
      (pss_cons (ps_set (i := 6) sc_word.nd rfl (.inl rfl) (pe_ca C hr (by rfl) (pa_cons (pv 0) (pa_cons (pv 1) (pa_cons (pv 2) (pa_cons (pv 4) pa_nil))))))
      (pss_one (ps_expr (pe_bm PySem.F.plainAttrs_list PySem.F.slot_list_append PySem.F.type_list_append mt_append (pv 3) (pa_cons (pe_ifExp (pt_cmpR op_eq (pe_op op_mul pe_int (pv 5)) (pv 6) (nomark _)) pe_int
        (pe_ifExp (pt_cmpR op_gt (pe_op op_mul pe_int (pv 5)) (pv 6) (nomark _)) pe_int (pe_un un_neg pe_int))) pa_nil))))))
    (pss_cons (ps_forW rfl (pi_tup (pe_tup (pa_cons (pe_tup (pa_cons pe_int (pa_cons (pe_gs (by rfl) E.ending) pa_nil))) (pa_cons (pe_tup (pa_cons pe_int (pa_cons (pe_gs (by rfl) E.flat) pa_nil))) (pa_cons (pe_tup (pa_cons (pe_un un_neg pe_int) (pa_cons (pe_gs (by rfl) E.wild) pa_nil))) pa_nil)))))
        (pg_tup rfl (pgs_cons (pg_name (i := 7) sc_word.nd rfl (.inl rfl)) (pgs_cons (pg_name (i := 8) sc_word.nd rfl (.inl rfl)) pgs_nil)))
      (pss_one (ps_if (pt_cmpR (op_eqI .li hr.units) (pv 3) (pe_op op_rep (pe_lst (pa_cons (pv 7) pa_nil)) (pe_callB call_len_seq (by rfl) E.len PySem.boot_len (pa_cons (pv 1) pa_nil))) (nomark _)) (pss_one (ps_ret (pv 8))) pss_nil)))
    (pss_one (ps_ret pe_non)))), ?_⟩
  refine ⟨Nat.zero_le _, fun sg ng => ?_⟩
  have s0 : Same H (upd H sg (.lst [])) := same_upd ng
  have hxy : ((lm ws).map V.int).length = (load.map V.int).length := by rw [hxl, List.length_map, hll]
  -- the signs
  refine ⟨.ref wg, rfl, .ref ld, rfl, wg, ld, _, _, rfl, sqT_same s0 hwg, sqT_same s0 hld, for_walk (walk_zip hxy) (fun i σ H' => ∃ y4 y5 y6 ss, σ = [some (.ref a), some (.ref wg), some (.ref ld), some (.ref sg), y4, y5, y6, none, none] ∧ Same H H' ∧ H' sg = some (.lst (List.map V.int ss)) ∧ ss.length = i ∧
      ∀ (j k : Nat) (x : Int), j < i → ws[j]? = some k → load[j]? = some x → ss[j]? = some (sgn x (wgt M ws load k)))
    ⟨none, none, none, [], rfl, s0, upd_same, rfl, fun j k x h => absurd h (Nat.not_lt_zero _)⟩ (fun i σ H' _ p => ?_) (fun i v σ H1 H2 hi p hy => ?_) (fun σ H1 p => ?_)⟩
  · obtain ⟨_, _, _, _, _, s1, _⟩ := p
    exact ⟨sqT_same s1 hwg, sqT_same s1 hld⟩
  · obtain ⟨y4, y5, y6, ss, rfl, s1, esg, hsl, hss⟩ := p
    obtain ⟨T, x1, x2, rfl, nT, rfl, hx1, hx2⟩ := hy
    obtain ⟨k, rfl, hk⟩ := at_lm hx1
    obtain ⟨x, rfl, hx⟩ := get_int hx2
    have hkl := O.lt k (List.mem_of_getElem? hk)
    have hbx := hb x (List.mem_of_getElem? hx)
    have s2 : Same H (upd H1 T (.tup [.int (k : Nat), .int x])) := sh_same s1 nT
    have esg2 : (upd H1 T (.tup [V.int (k : Nat), V.int x])) sg = some (.lst (List.map V.int ss)) := (same_upd nT) _ _ esg
    refine g2 upd_same ?_
    refine ⟨.ref a, rfl, .ref wg, rfl, .ref ld, rfl, .int (k : Nat), rfl, a, wg, ld, M, k, ws, load, rfl, hh.same s2, S, hkl, sqT_same s2 hwg, O, sqT_same s2 hld, hll, fun H3 s3 => ?_⟩
    have esg3 := s3 _ _ esg2
    refine ⟨.ref sg, rfl, .inl ⟨rfl, _, .inl (.inl esg3)⟩, .int x, rfl, 2, x, rfl, rfl, .inl ⟨by decide, by decide⟩, .int (wgt M ws load k), rfl, rfl, _, rfl, ?_⟩
    -- the append, whatever the sign
    have fin : ∀ z : Int, z = sgn x (wgt M ws load k) → ∃ l xs y, V.ref sg = .ref l ∧ [V.int z] = [y] ∧ H3 l = some (.lst xs) ∧ xs.length < sizeLine ∧
        ∃ y4' y5' y6' ss', [some (V.ref a), some (V.ref wg), some (V.ref ld), some (V.ref sg), some (V.int (k : Nat)), some (V.int x), some (V.int (wgt M ws load k)), none, none] = [some (.ref a), some (.ref wg), some (.ref ld), some (.ref sg), y4', y5', y6', none, none] ∧ Same H (upd H3 l (.lst (xs ++ [y]))) ∧ (upd H3 l (.lst (xs ++ [y]))) sg = some (.lst (List.map V.int ss')) ∧ ss'.length = i + 1 ∧
          ∀ (j k : Nat) (x : Int), j < i + 1 → ws[j]? = some k → load[j]? = some x → ss'[j]? = some (sgn x (wgt M ws load k)) := by
      intro z hz
      refine ⟨sg, _, _, rfl, rfl, esg3, by rw [List.length_map, hsl]; exact small1000 (by omega), _, _, _, ss ++ [z], rfl, fun b o e => ?_, ?_, by simp [hsl], fun j k' x' hj hk' hx' => ?_⟩
      · rw [upd_ne (ne_of_none e ng)]
        exact s3 _ _ (s2 _ _ e)
      · rw [upd_same, List.map_append]
        rfl
      · rcases Nat.lt_or_ge j ss.length with hj2 | hj2
        · rw [List.getElem?_append_left hj2]
          exact hss j k' x' (by omega) hk' hx'
        · have ej : j = i := by omega
          subst ej
          rw [hk] at hk'
          rw [hx] at hx'
          cases hk'
          cases hx'
          rw [List.getElem?_append_right hj2, show j - ss.length = 0 by omega, hz]
          rfl
    by_cases h1 : 2 * x = wgt M ws load k
    · rw [decide_eq_true (show V.int (2 * x) = V.int (wgt M ws load k) by rw [h1])]
      exact iteT (fin 0 (by unfold sgn; rw [if_pos h1]))
    · rw [decide_eq_false (fun z => h1 (V.int.inj z))]
      refine iteF ⟨.int x, rfl, 2, x, rfl, rfl, .inl ⟨by decide, by decide⟩, .int (wgt M ws load k), rfl, _, _, rfl, rfl, _, rfl, ?_⟩
      by_cases h2 : wgt M ws load k < 2 * x
      · rw [decide_eq_true h2]
        exact iteT (fin 1 (by unfold sgn; rw [if_neg h1, if_pos h2]))
      · rw [decide_eq_false h2]
        exact iteF ⟨1, rfl, fin (-1) (by unfold sgn; rw [if_neg h1, if_neg h2])⟩
  -- the words
  obtain ⟨y4, y5, y6, ss, rfl, s1, esg, hsl, hss⟩ := p
  have hnot := signs_not S W O hll (fun x hx => (hb x hx).1) (fun j k x hk hx => hss j k x (by rw [hxl]; exact (List.getElem?_eq_some_iff.mp hk).1) hk hx)
  refine ⟨by show 2 ≤ sizeLine; decide, fun p0 n0 => ⟨by show 2 ≤ sizeLine; decide, fun p1 n1 => ⟨1, rfl, by show 2 ≤ sizeLine; decide, fun p2 n2 => ⟨by show 3 ≤ sizeLine; decide, fun pt nt => ?_⟩⟩⟩⟩
  have q1 := same_upd (o := .tup [V.int 1, V.str "ending"]) n0
  have q2 := same_upd (o := .tup [V.int 0, V.str "flat"]) n1
  have q3 := same_upd (o := .tup [V.int (-1), V.str "wild"]) n2
  have q4 := same_upd (o := .tup [V.ref p0, V.ref p1, V.ref p2]) nt
  refine ⟨pt, rfl, ⟨_, .inl (.inl upd_same)⟩, for_walk (walk_tup (xs := [V.ref p0, V.ref p1, V.ref p2])) (fun i σ H' => ∃ y7 y8, σ = [some (.ref a), some (.ref wg), some (.ref ld), some (.ref sg), y4, y5, y6, y7, y8] ∧ Same (upd (upd (upd (upd H1 p0 (.tup [V.int 1, V.str "ending"])) p1 (.tup [V.int 0, V.str "flat"])) p2 (.tup [V.int (-1), V.str "wild"])) pt (.tup [V.ref p0, V.ref p1, V.ref p2])) H')
    ⟨none, none, rfl, Same.refl _⟩ (fun i σ H' _ p => ?_) (fun i v σ H2 H3 hi p hy => ?_) (fun σ H2 p => ?_)⟩
  · obtain ⟨_, _, _, s2⟩ := p
    exact .inl (.inl (s2 _ _ upd_same))
  · obtain ⟨y7, y8, rfl, s2⟩ := p
    obtain ⟨rfl, hv⟩ := hy
    have sAll : Same H H3 := s1.trans (q1.trans (q2.trans (q3.trans (q4.trans s2))))
    obtain ⟨pa, sgv, wd, rfl, hpa, hok⟩ : ∃ pa sgv wd, v = .ref pa ∧ H3 pa = some (.tup [V.int sgv, V.str wd]) ∧ (wd = "ending" ∨ wd = "wild" ∨ sgv = 0) := by
      match i, hv with
      | 0, hv => exact ⟨p0, 1, "ending", (Option.some.inj hv).symm, s2 _ _ (q4 _ _ (q3 _ _ (q2 _ _ upd_same))), .inl rfl⟩
      | 1, hv => exact ⟨p1, 0, "flat", (Option.some.inj hv).symm, s2 _ _ (q4 _ _ (q3 _ _ upd_same)), .inr (.inr rfl)⟩
      | 2, hv => exact ⟨p2, -1, "wild", (Option.some.inj hv).symm, s2 _ _ (q4 _ _ upd_same), .inr (.inl rfl)⟩
      | n + 3, hv => simp at hv
    refine g2 hpa ⟨.ref sg, rfl, ⟨.int sgv, rfl, by show 1 ≤ sizeLine; decide, fun l0 n0' => ?_⟩⟩
    have s3 : Same H3 (upd H3 l0 (.lst [V.int sgv])) := same_upd n0'
    refine ⟨.ref wg, rfl, wg, _, rfl, .inr (sqT_same (sAll.trans s3) hwg), l0, _, _, rfl, rfl, upd_same, by rw [hxl]; omega, by rw [hxl]; omega, ?_, fun l1 n1' => ?_⟩
    · rw [hxl]
      show 1 * ((ws.length : Nat) : Int).toNat ≤ sizeLine
      have := small1000 (show ws.length ≤ 1000 by omega)
      omega
    · have e1 : (List.replicate (((((lm ws).map V.int).length : Nat) : Int).toNat) [V.int sgv]).flatten = (List.replicate ws.length sgv).map V.int := by
        rw [flat_rep, hxl]
        exact rep_int ws.length sgv
      rw [e1]
      have s4 : Same H3 (upd (upd H3 l0 (.lst [V.int sgv])) l1 (.lst ((List.replicate ws.length sgv).map V.int))) := s3.trans (same_upd n1')
      have esg4 := s4 _ _ (s2 _ _ (q4 _ _ (q3 _ _ (q2 _ _ (q1 _ _ esg)))))
      refine ⟨sg, l1, ss, List.replicate ws.length sgv, rfl, rfl, .inl (.inl esg4), .inl (.inl upd_same), _, rfl, ?_⟩
      by_cases hd : ss = List.replicate ws.length sgv
      · show if decide (ss = List.replicate ws.length sgv) = true then _ else _
        rw [decide_eq_true hd]
        refine iteT ⟨.str wd, rfl, q _ _ (sAll.trans s4) ?_⟩
        rcases hok with e | e | e
        · rw [e]; exact .inr (.inl rfl)
        · rw [e]; exact .inr (.inr rfl)
        · rw [e] at hd; exact absurd hd hnot
      · show if decide (ss = List.replicate ws.length sgv) = true then _ else _
        rw [decide_eq_false hd]
        exact iteF ⟨_, _, rfl, s2.trans s4⟩
  · obtain ⟨y7, y8, rfl, s2⟩ := p
    exact q _ _ (s1.trans (q1.trans (q2.trans (q3.trans (q4.trans s2))))) (.inl rfl)
/-! ### kind_of, need_ending -/
def spKind (K : PySem.W.Frag) : Sp := fun vs H Q _ => ∃ (a wg : Addr) (M : Mat) (u : Vec) (ws : List Nat), vs = [.ref a, .ref wg] ∧ HallAt K H a M ∧ Shape M ∧ Wit M u ∧ SqT K H wg ((lm ws).map V.int) ∧ WingOk M ws ∧ ∀ H', Same H H' → Q (.str "ending") H'
abbrev n_kind : List Str := ["hall", "wing", "load"]
theorem sc_kind : FnScope n_kind ["hall", "wing"] (defScope s_kind_of) := ⟨rfl, rfl, rfl, by decide +kernel, rfl, by decide +kernel, by decide +kernel⟩
theorem ok_kind (E : Ev K mg) (D : Dd K mg "kind_of" s_kind_of) (C1 : Ca P w K mg base 2 "least_over" ["hall", "wing", "more"] (spLeast K)) (C2 : Ca P w K mg base 2 "word_of" ["hall", "wing", "load"] (spWord K)) : Ca P w K mg base 3 "kind_of" ["hall", "wing"] (spKind K) := by
  refine mk_ca (k := 2) D sc_kind (fun vs H Q E h => ?_) (fun _ _ _ _ _ _ us hl => match us, hl with | [_, _], _ => rfl) (fun f cd A outer s H vs Q E' hr h => ?_)
  · obtain ⟨a, wg, M, u, ws, rfl, _⟩ := h
    rfl
  obtain ⟨a, wg, M, u, ws, rfl, hh, S, W, hwg, O, q⟩ := h
  refine ⟨_, pss_cons (ps_set (i := 2) sc_kind.nd rfl (.inl rfl) (pe_ca C1 hr (by rfl) (pa_cons (pv 0) (pa_cons (pv 1) (pa_cons pe_int pa_nil)))))
    (pss_cons (ps_if (pt_cmp (pc_isN (pv 2))) pss_never pss_nil)
    (pss_one (ps_ret (pe_ifExp (pt_cmpR op_eq (pe_ca C2 hr (by rfl) (pa_cons (pv 0) (pa_cons (pv 1) (pa_cons (pv 2) pa_nil)))) (pe_gs (by rfl) E.flat) (nomark _)) (pe_gs (by rfl) E.flat) (pe_gs (by rfl) E.ending))))), ?_⟩
  refine ⟨.ref a, rfl, .ref wg, rfl, a, wg, M, u, ws, rfl, hh, S, W, hwg, O, fun H1 t load s1 ht hl hb => ?_⟩
  refine ⟨.ref t, rfl, false, rfl, iteF ?_⟩
  refine ⟨.ref a, rfl, .ref wg, rfl, .ref t, rfl, a, wg, t, M, u, ws, load, rfl, hh.same s1, S, W, sqT_same s1 hwg, O, .inl (.inl ht), hl, hb, fun H2 v s2 hv => ?_⟩
  rcases hv with rfl | rfl | rfl
  · exact ⟨rfl, false, rfl, iteF (q _ (s1.trans s2))⟩
  · exact ⟨rfl, false, congrArg V.bl (by decide +kernel), iteF (q _ (s1.trans s2))⟩
  · exact ⟨rfl, false, congrArg V.bl (by decide +kernel), iteF (q _ (s1.trans s2))⟩
def spNeedEnding (K : PySem.W.Frag) : Sp := fun vs H Q _ => ∃ (a : Addr) (M : Mat) (u : Vec), vs = [.ref a] ∧ HallAt K H a M ∧ Shape M ∧ Wit M u ∧ ∀ H', Same H H' → Q .non H'
abbrev n_need_ending : List Str := ["hall", "wing"]
theorem sc_need_ending : FnScope n_need_ending ["hall"] (defScope s_need_ending) := ⟨rfl, rfl, rfl, by decide +kernel, rfl, by decide +kernel, by decide +kernel⟩
theorem ok_need_ending (E : Ev K mg) (D : Dd K mg "need_ending" s_need_ending) (C0 : Ca P w K mg base 1 "need_hall" ["hall"] (spNeedHall K)) (C1 : Ca P w K mg base 3 "wings_of" ["hall"] (spWings K)) (C2 : Ca P w K mg base 3 "kind_of" ["hall", "wing"] (spKind K)) : Ca P w K mg base 4 "need_ending" ["hall"] (spNeedEnding K) := by
  refine mk_ca (k := 3) D sc_need_ending (fun vs H Q E h => ?_) (fun _ _ _ _ _ _ us hl => match us, hl with | [_], _ => rfl) (fun f cd A outer s H vs Q E' hr h => ?_)
  · obtain ⟨a, M, u, rfl, _⟩ := h
    rfl
  obtain ⟨a, M, u, rfl, hh, S, W, q⟩ := h
  refine ⟨_, pss_cons (ps_expr (pe_ca (C0.mono (by decide)) hr (by rfl) (pa_cons (pv 0) pa_nil)))
    (pss_one (ps_if (pt_not (pt_val (pe_callB (cr_all rfl) (by rfl) E.all (by decide +kernel) (pa_cons (pe_lcW (own := [("wing", 1)]) (g := gName 1) rfl sc_need_ending.nd (pi_list (pe_ca C1 hr (by rfl) (pa_cons (pv 0) pa_nil)))
      (blkOk_by (N := n_need_ending) (sc := defScope s_need_ending) (by decide +kernel)) (fun _ _ _ _ _ => pg_name (i := 1) sc_need_ending.nd rfl (.inl rfl)) (fun _ _ _ _ _ => pe_cmpR op_eq (pe_ca C2 hr (by rfl) (pa_cons (pv 0) (pa_cons (pv 1) pa_nil))) (pe_gs (by rfl) E.ending) (nomark _))) pa_nil)))) pss_never pss_nil)), ?_⟩
  refine ⟨.ref a, rfl, a, M, rfl, hh, .ref a, rfl, a, M, rfl, hh, S, fun H1 l cs s1 el hcl hcs => ?_⟩
  refine ⟨l, rfl, ⟨_, .inl (.inl el)⟩, lc_walk walk_list (by rw [List.length_map]; exact small1000 (by omega)) (fun H' s => .inl (.inl (s _ _ el))) (fun D j y H => y = .bl true) (fun D j y H H' h _ => h) (fun D j x H2 H3 Kc hj s2 hD hy kc => ?_) (fun D H2 ys nD s2 e2 l2 r2 => ?_)⟩
  · obtain ⟨rfl, hx⟩ := hy
    rw [List.getElem?_map] at hx
    cases ec : cs[j]? with
    | none => rw [ec] at hx; cases hx
    | some c =>
      rw [ec] at hx
      obtain rfl : V.ref c.1 = x := Option.some.inj hx
      obtain ⟨hc1, ws, hc2, O⟩ := hcs c (List.mem_of_getElem? ec)
      rw [hc2] at hc1
      refine ⟨rfl, .ref a, rfl, .ref c.1, rfl, a, c.1, M, u, ws, rfl, hh.same (s1.trans s2), S, W, (hc1.same s2).sq, O, fun H4 s4 => ⟨rfl, kc _ _ s4 ?_⟩⟩
      exact congrArg V.bl (by decide +kernel)
  · have ey : ys = ((List.range (cs.map fun b => V.ref b.1).length).map fun _ => true).map V.bl := by
      rw [vals_at l2 r2, List.map_map]
      rfl
    subst ey
    exact ⟨D, _, rfl, .inl (.inl e2), true, by rw [List.all_eq_true.mpr (by simp)], iteF (q _ (s1.trans s2))⟩
end
end K31

set_option Elab.async false
set_option linter.all false
set_option maxRecDepth 100000
set_option maxHeartbeats 4000000
namespace K31
open PySem PySem.Spec PyProof.Rows L2
/-! ### the walk, 9: arrows -/
theorem rd_sl {K : PySem.W.Frag} {H : Hp} {a : Addr} {xs ys : List V} {lo hi : Option Int} {Q : VK} (h : SqT K H a xs) (hc : cutV xs lo hi = ys) (q : ∀ p H', Same H H' → SqT K H' p ys → Q (.ref p) H') : rSlA K (.ref a) lo hi H Q := by
  refine ⟨a, xs, rfl, h, fun hw => ?_, fun _ p np => ?_⟩
  · have e : xs = ys := by
      rw [← hc]
      unfold cutV
      rw [hw.1, hw.2, List.drop_zero, Nat.sub_zero, List.take_length]
    rw [← e] at q
    exact q a H (Same.refl _) h
  · rw [hc]
    exact q p _ (same_upd np) (.inl (.inl upd_same))
theorem cut_take (xs : List V) (i : Nat) : cutV xs none (some (i : Int)) = xs.take i := by
  unfold cutV
  rw [HT.sIx_none, HT.sIx_nat, List.drop_zero, Nat.sub_zero]
  rcases Nat.le_total i xs.length with h | h
  · rw [Nat.min_eq_left h]
  · rw [Nat.min_eq_right h, List.take_length, List.take_of_length_le h]
theorem cut_drop (xs : List V) (i : Nat) : cutV xs (some (i : Int)) none = xs.drop i := by
  unfold cutV
  rw [HT.sIx_none, HT.sIx_nat]
  rcases Nat.le_total i xs.length with h | h
  · rw [Nat.min_eq_left h, List.take_of_length_le (by rw [List.length_drop]; omega)]
  · rw [Nat.min_eq_right h, List.drop_of_length_le h, List.drop_length]
    simp
theorem set_parts {xs : List Int} {i : Nat} (h : i < xs.length) (o : Int) : xs.take i ++ o :: xs.drop (i + 1) = xs.set i o := by
  rw [List.set_eq_take_append_cons_drop, if_pos h]
theorem getD_get {xs : List Int} {i : Nat} (h : i < xs.length) : xs[i]? = some (xs.getD i 0) := by
  rw [List.getD_eq_getElem?_getD, List.getElem?_eq_getElem h]
  rfl
section
variable {P : Program} {w : World} {K : PySem.W.Frag} {mg : Str → Option Value} {base : Heap}
/-! ### are_numbers -/
def spNumbers (K : PySem.W.Frag) : Sp := fun vs H Q _ => ∃ (a v : Addr) (M : Mat) (ns : List Int), vs = [.ref a, .ref v] ∧ HallAt K H a M ∧ Shape M ∧ IT H v ns ∧ ns.length = M.length ∧ ∀ H', Same H H' → Q (.bl true) H'
abbrev n_numbers : List Str := ["hall", "value", "one"]
theorem sc_numbers : FnScope n_numbers ["hall", "value"] (defScope s_are_numbers) := ⟨rfl, rfl, rfl, by decide +kernel, rfl, by decide +kernel, by decide +kernel⟩
theorem ok_numbers (E : Ev K mg) (D : Dd K mg "are_numbers" s_are_numbers) (L : CaLen P w K mg base) : Ca P w K mg base 3 "are_numbers" ["hall", "value"] (spNumbers K) := by
  refine mk_ca (k := 2) D sc_numbers (fun vs H Q E h => ?_) (fun _ _ _ _ _ _ us hl => match us, hl with | [_, _], _ => rfl) (fun f cd A outer s H vs Q E' hr h => ?_)
  · obtain ⟨a, v, M, ns, rfl, _⟩ := h
    rfl
  obtain ⟨a, v, M, ns, rfl, hh, S, hv, hl, q⟩ := h
  have hn8 := S.le
  refine ⟨_, pss_cons (ps_if (pw_or (pt_not (pt_val (pe_isi E.isi E.tup boot_tuple (pv 1) (by rfl) (by rfl))))
      (pw_or1 (pt_cmpR op_ne (pe_callB call_len_seq (by rfl) E.len PySem.boot_len (pa_cons (pv 1) pa_nil)) (pe_callB (call_hlen L E.hlen hr) (by rfl) E.len PySem.boot_len (pa_cons (pv 0) pa_nil)) (nomark _)))).pt pss_never pss_nil)
    (pss_one (ps_ret (pe_callB (cr_all rfl) (by rfl) E.all (by decide +kernel) (pa_cons (pe_lcW (own := [("one", 2)]) (g := gName 2) (te := tAndV (tCB (rIsT K) (tCons (tVar 2) (tCons (tC (.ty "int")) tNil))) (tNotV (tCB (rIsT K) (tCons (tVar 2) (tCons (tC (.ty "bool")) tNil))))) rfl sc_numbers.nd (pi_tup (pv 1))
      (blkOk_by (N := n_numbers) (sc := defScope s_are_numbers) (by decide +kernel)) (fun _ _ _ _ _ => pg_name (i := 2) sc_numbers.nd rfl (.inl rfl))
      (fun _ _ _ _ _ => pe_and (pe_isi E.isi E.int boot_int (pv 2) (by rfl) (by rfl)) (pe_one (pe_not (pe_isi E.isi E.bool boot_bool (pv 2) (by rfl) (by rfl)))))) pa_nil)))), ?_⟩
  refine ⟨.ref v, rfl, .ref v, "tuple", "tuple", true, rfl, hv.ty, by decide +kernel, true, rfl, iteF ?_⟩
  refine ⟨.ref v, rfl, v, _, rfl, .inr hv.sq, .ref a, rfl, a, M, rfl, hh, S, rfl, _, rfl, iteNS (by rw [List.length_map, hl]) ?_⟩
  refine ⟨.ref v, rfl, v, rfl, ⟨_, hv.sq⟩, lc_walk walk_tup (by rw [List.length_map]; exact small1000 (by omega)) (fun H' s => (hv.same s).sq) (fun D j y H => y = .bl true) (fun D j y H H' h _ => h) (fun D j x H2 H3 Kc hj s2 hD hy kc => ?_) (fun D H2 ys nD s2 e2 l2 r2 => ?_)⟩
  · obtain ⟨rfl, hx⟩ := hy
    obtain ⟨z, rfl, _⟩ := get_int hx
    exact ⟨rfl, .int z, rfl, .int z, "int", "int", true, rfl, .base (.int z), by decide +kernel, true, rfl, iteT ⟨.int z, rfl, .int z, "int", "bool", false, rfl, .base (.int z), by decide +kernel, false, rfl, kc _ _ (Same.refl _) rfl⟩⟩
  · have ey : ys = ((List.range (ns.map V.int).length).map fun _ => true).map V.bl := by
      rw [vals_at l2 r2, List.map_map]
      rfl
    subst ey
    refine ⟨D, _, rfl, .inl (.inl e2), ?_⟩
    rw [List.all_eq_true.mpr (by simp)]
    exact q _ s2
/-! ### unit_of -/
def spUnit (K : PySem.W.Frag) : Sp := fun vs H Q _ => ∃ (a : Addr) (M : Mat) (i : Nat), vs = [.ref a, .int i] ∧ HallAt K H a M ∧ Shape M ∧ ∀ H' t, Same H H' → PT H' t (unit M.length i) → Q (.ref t) H'
abbrev n_unit : List Str := ["hall", "lamp", "other"]
theorem sc_unit : FnScope n_unit ["hall", "lamp"] (defScope s_unit_of) := ⟨rfl, rfl, rfl, by decide +kernel, rfl, by decide +kernel, by decide +kernel⟩
theorem ok_unit (E : Ev K mg) (D : Dd K mg "unit_of" s_unit_of) (L : CaLen P w K mg base) : Ca P w K mg base 3 "unit_of" ["hall", "lamp"] (spUnit K) := by
  refine mk_ca (k := 2) D sc_unit (fun vs H Q E h => ?_) (fun _ _ _ _ _ _ us hl => match us, hl with | [_, _], _ => rfl) (fun f cd A outer s H vs Q E' hr h => ?_)
  · obtain ⟨a, M, i, rfl, _⟩ := h
    rfl
  obtain ⟨a, M, i, rfl, hh, S, q⟩ := h
  have hn8 := S.le
  refine ⟨_, pss_one (ps_ret (pe_callTy call_tupleP (by rfl) E.tup boot_tuple (pa_cons (pe_lcW (own := [("other", 2)]) (g := gName 2) rfl sc_unit.nd
    (pi_range1 (by rfl) E.rng (pa_cons (pe_callB (call_hlen L E.hlen hr) (by rfl) E.len PySem.boot_len (pa_cons (pv 0) pa_nil)) pa_nil)) (blkOk_by (N := n_unit) (sc := defScope s_unit_of) (by decide +kernel)) (fun _ _ _ _ _ => pg_name (i := 2) sc_unit.nd rfl (.inl rfl))
    (fun _ _ _ _ _ => pe_callTy call_int1 (by rfl) E.int boot_int (pa_cons (pe_cmpR op_eq (pv 2) (pv 1) (nomark _)) pa_nil))) pa_nil))), ?_⟩
  refine ⟨.ref a, rfl, a, M, rfl, hh, S, (M.length : Nat), rfl, by omega, by omega, lc_walk walk_rng (small1000 (by omega)) (fun _ _ => trivial) (fun D j y H => y = .int (if j = i then 1 else 0)) (fun D j y H H' h _ => h) (fun D j x H2 H3 Kc hj s2 hD hy kc => ?_) (fun D H2 ys nD s2 e2 l2 r2 => ?_)⟩
  · obtain ⟨rfl, rfl⟩ := hy
    refine ⟨rfl, .int (0 + (j : Int)), rfl, .int (i : Nat), rfl, rfl, .inr ⟨_, rfl, kc _ _ (Same.refl _) ?_⟩⟩
    by_cases hji : j = i
    · subst hji
      rw [decide_eq_true (show V.int (0 + (j : Int)) = V.int (j : Nat) by rw [Int.zero_add])]
      simp
    · rw [decide_eq_false (fun z => hji (by have := V.int.inj z; omega)), if_neg hji]
      simp
  · have ey : ys = (unit M.length i).map V.int := by
      rw [vals_at l2 r2]
      unfold unit
      rw [List.map_map, Int.toNat_natCast]
      rfl
    subst ey
    exact ⟨D, _, rfl, .inl (.inl e2), fun t o nt ho => q _ t (s2.trans (same_upd nt)) ⟨o, upd_same, ho⟩⟩
/-! ### turned -/
def spTurned (K : PySem.W.Frag) : Sp := fun vs H Q _ => ∃ (a v : Addr) (M : Mat) (x : Vec) (i : Nat), vs = [.ref a, .ref v, .int i] ∧ HallAt K H a M ∧ Shape M ∧ IT H v x ∧ x.length = M.length ∧ i < M.length ∧ ∀ H' t, Same H H' → PT H' t (turn M x i) → Q (.ref t) H'
abbrev n_turned : List Str := ["hall", "arrow", "lamp", "other", "push", "number"]
theorem sc_turned : FnScope n_turned ["hall", "arrow", "lamp"] (defScope s_turned) := ⟨rfl, rfl, rfl, by decide +kernel, rfl, by decide +kernel, by decide +kernel⟩
theorem ok_turned (E : Ev K mg) (D : Dd K mg "turned" s_turned) : Ca P w K mg base 1 "turned" ["hall", "arrow", "lamp"] (spTurned K) := by
  refine mk_ca (k := 0) D sc_turned (fun vs H Q E h => ?_) (fun _ _ _ _ _ _ us hl => match us, hl with | [_, _, _], _ => rfl) (fun f cd A outer s H vs Q E' hr h => ?_)
  · obtain ⟨a, v, M, x, i, rfl, _⟩ := h
    rfl
  obtain ⟨a, v, M, x, i, rfl, ⟨dx, t, ha, rs, ht, hl, h3⟩, S, hv, hxl, hi, q⟩ := h
  have hn8 := S.le
  obtain ⟨r, er, hr0⟩ := tt_at hl h3 hi
  have hrl := S.row_length hi
  refine ⟨_, pss_cons (ps_set (i := 3) sc_turned.nd rfl (.inl rfl) (pe_op op_sub (pe_callB (cr_sum rfl) (by rfl) E.sum boot_sum (pa_cons (pe_lcW (own := [("push", 4), ("number", 5)]) (g := gTup K 2 (gCons (gName 4) (gCons (gName 5) gNil))) rfl sc_turned.nd
      (pi_zipI (k := .tu) (m := .tu) (by rfl) E.zip (pa_cons (pe_ix ix_tup (pe_fld (pv 0) rfl) (pv 2) (fun _ _ => rfl)) (pa_cons (pv 1) pa_nil))) (blkOk_by (N := n_turned) (sc := defScope s_turned) (by decide +kernel))
      (fun _ _ _ _ _ => pg_tup rfl (pgs_cons (pg_name (i := 4) sc_turned.nd rfl (.inl rfl)) (pgs_cons (pg_name (i := 5) sc_turned.nd rfl (.inl rfl)) pgs_nil)))
      (fun _ _ _ _ _ => pe_op op_mul (pv 4) (pv 5))) pa_nil)) (pe_ix ix_tup (pv 1) (pv 2) (fun _ _ => rfl))))
    (pss_one (ps_ret (pe_tupP (StX.pa_star (pe_slice sl_tupA (pv 1) po_none (po_some (pv 2))) (pa_cons (pv 3) (StX.pa_star (pe_slice sl_tupA (pv 1) (po_some (pe_op op_add (pv 2) pe_int)) po_none) pa_nil)))))), ?_⟩
  have hxy : ((rowOf M i).map V.int).length = (x.map V.int).length := by rw [List.length_map, List.length_map, hrl, hxl]
  refine ⟨.ref a, rfl, a, cH K, dx, _, .ref t, rfl, ha, E.cls, E.told, rfl, .int (i : Nat), rfl, t, _, _, _, rfl, rfl, .inl (.inl ht), atI_nat er, .ref v, rfl, r, v, _, _, rfl, hr0.sq, hv.sq,
    lc_walk (walk_zip hxy) (by rw [List.length_map, hrl]; exact small1000 (by omega)) (fun H' s => ⟨(hr0.same s).sq, (hv.same s).sq⟩) (fun D j y H => ∃ z o, (rowOf M i)[j]? = some z ∧ x[j]? = some o ∧ y = .int (z * o)) (fun D j y H H' h _ => h) (fun D j y H2 H3 Kc hj s2 hD hy kc => ?_) (fun D H2 ys nD s2 e2 l2 r2 => ?_)⟩
  · obtain ⟨T, x1, x2, rfl, nT, rfl, hx1, hx2⟩ := hy
    obtain ⟨z, rfl, hz⟩ := get_int hx1
    obtain ⟨o, rfl, ho⟩ := get_int hx2
    have hb := S.ent _ (rowOf_mem hi) z (List.mem_of_getElem? hz)
    exact g2 upd_same ⟨rfl, .int z, rfl, .int o, rfl, _, _, rfl, rfl, .inl ⟨by omega, by omega⟩, kc _ _ (same_upd nT) ⟨z, o, hz, ho, rfl⟩⟩
  · have ey : ys = (List.zipWith (· * ·) (rowOf M i) x).map V.int := by
      apply List.ext_getElem?
      intro j
      rw [List.getElem?_map, List.getElem?_zipWith]
      rcases Nat.lt_or_ge j ys.length with hj | hj
      · obtain ⟨z, o, hz, ho, e⟩ := r2 j _ (List.getElem?_eq_getElem hj)
        rw [List.getElem?_eq_getElem hj, e, hz, ho]
        rfl
      · rw [List.length_map] at l2
        rw [List.getElem?_eq_none hj, List.getElem?_eq_none (by omega : (rowOf M i).length ≤ j)]
        rfl
    subst ey
    have hv2 := hv.same s2
    refine ⟨D, _, rfl, .inl (.inl e2), .ref v, rfl, .int (i : Nat), rfl, v, _, _, _, rfl, rfl, hv2.sq, atI_nat (int_get (getD_get (by omega : i < x.length))), _, _, rfl, rfl, ?_⟩
    -- the tuple
    refine ⟨.ref v, rfl, .int (i : Nat), rfl, i, rfl, rd_sl hv2.sq (cut_take _ i) fun p H3 s3 hp => ⟨p, _, rfl, .inl hp, _, rfl, ?_⟩⟩
    have e0 : ((i : Int) + 1) = ((i + 1 : Nat) : Int) := by omega
    refine ⟨.ref v, rfl, .int (i : Nat), rfl, i, 1, rfl, rfl, (i : Int) + 1, rfl, ?_⟩
    dsimp only [tNoPart]
    refine rd_sl ((hv2.same s3).sq) (ys := (x.map V.int).drop (i + 1)) (by rw [e0]; exact cut_drop _ (i + 1)) fun p2 H4 s4 hp2 => ⟨p2, _, rfl, .inl hp2, ?_⟩
    have eT : (x.map V.int).take i ++ [V.int ((List.zipWith (· * ·) (rowOf M i) x).sum - x.getD i 0)] ++ ((x.map V.int).drop (i + 1) ++ []) = (turn M x i).map V.int := by
      unfold turn dot
      rw [← set_parts (by omega : i < x.length), List.map_append, List.map_take, List.map_cons, List.map_drop]
      simp
    have eT2 : (x.map V.int).take i ++ V.int ((List.zipWith (· * ·) (rowOf M i) x).sum - x.getD i 0) :: ((x.map V.int).drop (i + 1) ++ []) = (turn M x i).map V.int := by
      rw [← eT]
      simp
    dsimp only [tNil]
    rw [eT2]
    refine ⟨by rw [List.length_map, turn_length]; exact Nat.le_of_lt (small1000 (by omega)), fun tp o ntp ho => q _ tp (((s2.trans s3).trans s4).trans (same_upd ntp)) ⟨o, upd_same, ho⟩⟩
/-! ### height_of, turned_up -/
def spHeight (K : PySem.W.Frag) : Sp := fun vs H Q _ => ∃ b : TB, vs = [.ref b.1] ∧ IT H b.1 b.2 ∧ ∀ t H', Same H H' → H' t = some (.tup [.int b.2.sum, .ref b.1]) → Q (.ref t) H'
theorem sc_height : FnScope ["arrow"] ["arrow"] (defScope s_height_of) := ⟨rfl, rfl, rfl, by decide +kernel, rfl, by decide +kernel, by decide +kernel⟩
theorem ok_height (E : Ev K mg) (D : Dd K mg "height_of" s_height_of) : Ca P w K mg base 1 "height_of" ["arrow"] (spHeight K) := by
  refine mk_ca (k := 0) D sc_height (fun vs H Q E h => ?_) (fun _ _ _ _ _ _ us hl => match us, hl with | [_], _ => rfl) (fun f cd A outer s H vs Q E' hr h => ?_)
  · obtain ⟨b, rfl, _⟩ := h
    rfl
  obtain ⟨b, rfl, hb, q⟩ := h
  refine ⟨_, pss_one (ps_ret (pe_tup (pa_cons (pe_callB (cr_sumT rfl) (by rfl) E.sum boot_sum (pa_cons (pv 0) pa_nil)) (pa_cons (pv 0) pa_nil)))), ?_⟩
  exact ⟨.ref b.1, rfl, b.1, b.2, rfl, hb.sq, .ref b.1, rfl, by show 2 ≤ sizeLine; decide, fun t nt => q t _ (same_upd nt) upd_same⟩
def spTUp (K : PySem.W.Frag) : Sp := fun vs H Q _ => ∃ (v : Addr) (x : Vec), vs = [.ref v] ∧ PT H v x ∧ x.length ≤ 1000 ∧ ∀ H' t, Same H H' → PT H' t (upOf x) → Q (.ref t) H'
theorem sc_tup : FnScope ["arrow", "one"] ["arrow"] (defScope s_turned_up) := ⟨rfl, rfl, rfl, by decide +kernel, rfl, by decide +kernel, by decide +kernel⟩
theorem ok_tup (E : Ev K mg) (D : Dd K mg "turned_up" s_turned_up) : Ca P w K mg base 1 "turned_up" ["arrow"] (spTUp K) := by
  refine mk_ca (k := 0) D sc_tup (fun vs H Q E h => ?_) (fun _ _ _ _ _ _ us hl => match us, hl with | [_], _ => rfl) (fun f cd A outer s H vs Q E' hr h => ?_)
  · obtain ⟨v, x, rfl, _⟩ := h
    rfl
  obtain ⟨v, x, rfl, hv, hl, q⟩ := h
  refine ⟨_, pss_one (ps_ret (pe_ifExp (pt_cmpR op_gt (pe_callB (cr_sumT rfl) (by rfl) E.sum boot_sum (pa_cons (pv 0) pa_nil)) pe_int (nomark _)) (pv 0)
    (pe_callTy call_tupleP (by rfl) E.tup boot_tuple (pa_cons (pe_lcW (own := [("one", 1)]) (g := gName 1) rfl sc_tup.nd (pi_tup (pv 0)) (blkOk_by (N := ["arrow", "one"]) (sc := defScope s_turned_up) (by decide +kernel)) (fun _ _ _ _ _ => pg_name (i := 1) sc_tup.nd rfl (.inl rfl))
      (fun _ _ _ _ _ => pe_un un_neg (pv 1))) pa_nil)))), ?_⟩
  refine ⟨.ref v, rfl, v, x, rfl, hv.it.sq, x.sum, 0, rfl, rfl, _, rfl, ?_⟩
  unfold upOf at q
  by_cases hs : 0 < x.sum
  · rw [decide_eq_true hs]
    rw [if_pos hs] at q
    exact iteT ⟨.ref v, rfl, q _ _ (Same.refl _) hv⟩
  · rw [decide_eq_false hs]
    rw [if_neg hs] at q
    refine iteF ⟨.ref v, rfl, v, rfl, ⟨_, hv.it.sq⟩, lc_walk walk_tup (by rw [List.length_map]; exact small1000 hl) (fun H' s => (hv.it.same s).sq) (fun D j y H => ∃ z, x[j]? = some z ∧ y = .int (-z)) (fun D j y H H' h _ => h) (fun D j y H2 H3 Kc hj s2 hD hy kc => ?_) (fun D H2 ys nD s2 e2 l2 r2 => ?_)⟩
    · obtain ⟨rfl, hx⟩ := hy
      obtain ⟨z, rfl, hz⟩ := get_int hx
      exact ⟨rfl, .int z, rfl, z, rfl, kc _ _ (Same.refl _) ⟨z, hz, rfl⟩⟩
    · have ey : ys = (neg x).map V.int := by
        apply List.ext_getElem?
        intro j
        unfold neg
        rw [List.getElem?_map, List.getElem?_map]
        rcases Nat.lt_or_ge j ys.length with hj | hj
        · obtain ⟨z, hz, e⟩ := r2 j _ (List.getElem?_eq_getElem hj)
          rw [List.getElem?_eq_getElem hj, e, hz]
          rfl
        · rw [List.length_map] at l2
          rw [List.getElem?_eq_none hj, List.getElem?_eq_none (by omega)]
          rfl
      subst ey
      exact ⟨D, _, rfl, .inl (.inl e2), fun t o nt ho => q _ t (s2.trans (same_upd nt)) ⟨o, upd_same, ho⟩⟩
end
end K31

set_option Elab.async false
set_option linter.all false
set_option maxRecDepth 100000
set_option maxHeartbeats 4000000
namespace K31
open PySem PySem.Spec PyProof.Rows L2
/-! ### the walk, 10: all arrows up -/
theorem lex_eq : ∀ a b : List Int, HT.lexLt a b = lexLt a b
  | [], [] => rfl
  | [], _ :: _ => rfl
  | _ :: _, [] => rfl
  | x :: a, y :: b => by
    show (if x = y then HT.lexLt a b else decide (x < y)) = (if x = y then lexLt a b else decide (x < y))
    rw [lex_eq a b]
theorem same_sb {D : Addr} {H0 H1 H2 : Hp} (n : H0 D = none) (s : Same H0 H1) (b : SB D H1 H2) : Same H0 H2 := fun c o e => b c o (ne_of_none e n) (s c o e)
theorem XT.some {P : Program} {w : World} {H : Hp} {d : Addr} {m : Tab} (h : XT P w H d m) : ∃ φ, H d = some (.ext φ) := let ⟨_, e, _⟩ := h; ⟨_, e⟩
/-- another such dict was written -/
theorem XT.sb {P : Program} {w : World} {H H' : Hp} {d D : Addr} {m l : Tab} (h : XT P w H d m) (hD : XT P w H D l) (n : d ≠ D) (s : SB D H H') : XT P w H' d m := by
  obtain ⟨q3, e, z, r⟩ := h
  obtain ⟨φ, eD⟩ := hD.some
  exact ⟨q3, s _ _ n e, z, r.sb eD s⟩
theorem way_len (P : Mat) (G : List (Vec × Nat)) : ∀ (k : Nat) (x : Vec), (way P G k x).length ≤ k
  | 0, _ => Nat.le_refl _
  | k + 1, x => by
    unfold way
    split
    · rw [List.length_cons]
      exact Nat.succ_le_succ (way_len P G k _)
    · exact Nat.zero_le _
theorem putM_new {m : Tab} {k : Vec} (w : List Int) (h : k ∉ keysM m) : putM m k w = m ++ [(k, w)] := by
  unfold putM
  rw [if_neg (fun z => h (any_keys.mp z))]
theorem putM_len (m : Tab) (k : Vec) (w : List Int) : (putM m k w).length ≤ m.length + 1 := by
  unfold putM
  split
  · rw [List.length_map]; omega
  · rw [List.length_append]; simp
theorem stepM_len (cond : Vec → Vec → Bool) (P : Mat) (found : Tab) (a : Vec) (later : Tab) (i : Nat) : (stepM cond P found a later i).length ≤ later.length + 1 := by
  unfold stepM
  split
  · exact putM_len _ _ _
  · omega
theorem fold_succ {α β : Type} (f : β → α → β) (b : β) (l : List α) {i : Nat} {x : α} (h : l[i]? = some x) : (l.take (i + 1)).foldl f b = f ((l.take i).foldl f b) x := by
  rw [List.take_add_one, h, List.foldl_append]
  rfl
theorem range_fold {β : Type} (f : β → Nat → β) (b : β) (i : Nat) : (List.range (i + 1)).foldl f b = f ((List.range i).foldl f b) i := by
  rw [List.range_succ, List.foldl_append]
  rfl
theorem rowPart_len (cond : Vec → Vec → Bool) (P : Mat) (found : Tab) (a : Vec) (later : Tab) : ∀ i, ((List.range i).foldl (stepM cond P found a) later).length ≤ later.length + i
  | 0 => Nat.le_refl _
  | i + 1 => by
    rw [range_fold]
    have h1 := stepM_len cond P found a ((List.range i).foldl (stepM cond P found a) later) i
    have h2 := rowPart_len cond P found a later i
    omega
theorem layPart_len (cond : Vec → Vec → Bool) (P : Mat) (found : Tab) (n : Nat) (L : List Vec) : ∀ j, j ≤ L.length → ((L.take j).foldl (rowM cond P found n) []).length ≤ j * n
  | 0, _ => by simp
  | j + 1, h => by
    have e : L[j]? = some (L[j]'(by omega)) := List.getElem?_eq_getElem (by omega)
    rw [fold_succ _ _ _ e]
    have h1 := rowPart_len cond P found (L[j]'(by omega)) ((L.take j).foldl (rowM cond P found n) []) n
    have h2 := layPart_len cond P found n L j (by omega)
    have h3 : (j + 1) * n = j * n + n := by rw [Nat.add_mul, Nat.one_mul]
    have h4 : (rowM cond P found n ((L.take j).foldl (rowM cond P found n) []) (L[j]'(by omega))).length ≤ ((L.take j).foldl (rowM cond P found n) []).length + n := h1
    omega
/-- the tables grow -/
theorem grows {P : Mat} {G : List (Vec × Nat)} {cond : Vec → Vec → Bool} (S : Shape P) (D : Grade P G cond) {k : Nat} {found : Tab} {L : List Vec} (F : FoundInv P G k found) (hL : LayerInv G k L) :
    (layerM cond P found P.length L ≠ [] → found.length + 1 ≤ (mergeM found (layerM cond P found P.length L)).length) ∧ (layerM cond P found P.length L = [] → mergeM found (layerM cond P found P.length L) = found) := by
  constructor
  · intro hne
    obtain ⟨F2, L2'⟩ := bfs_step S D F hL
    obtain ⟨p, hp⟩ : ∃ p, p ∈ layerM cond P found P.length L := List.exists_mem_of_ne_nil _ hne
    have hpk : p.1 ∈ keysM (layerM cond P found P.length L) := List.mem_map.mpr ⟨p, hp, rfl⟩
    have hg := (L2' p.1).mp hpk
    have hnot : p.1 ∉ keysM found := fun z => by
      obtain ⟨j, hj, hx⟩ := F.key.mp z
      have := D.fn p.1 j (k + 1) hx hg
      omega
    have z := nodup_le (l := p.1 :: keysM found) (m := keysM (mergeM found (layerM cond P found P.length L))) (List.nodup_cons.mpr ⟨hnot, F.1⟩) fun x hx => by
      rcases List.mem_cons.mp hx with e | hx
      · rw [e]
        exact F2.key.mpr ⟨k + 1, Nat.le_refl _, hg⟩
      · obtain ⟨j, hj, h⟩ := F.key.mp hx
        exact F2.key.mpr ⟨j, by omega, h⟩
    simpa [keysM] using z
  · intro e
    rw [e]
    rfl
theorem start_perm {P : Mat} {G : List (Vec × Nat)} {cond : Vec → Vec → Bool} (D : Grade P G cond) {L : List Vec} (hp : List.Perm L ((List.range P.length).map fun i => unit P.length i)) : FoundInv P G 0 (L.map fun x => (x, [])) ∧ LayerInv G 0 L ∧ L.Nodup := by
  obtain ⟨F, hL⟩ := bfs_start D
  have hk : keysM ((List.range P.length).map fun i => (unit P.length i, ([] : List Int))) = (List.range P.length).map fun i => unit P.length i := by
    unfold keysM
    rw [List.map_map]
    rfl
  have nd : L.Nodup := hp.nodup_iff.mpr (by rw [← hk]; exact F.1)
  refine ⟨⟨?_, fun x w => ?_⟩, fun x => ?_, nd⟩
  · have e : keysM (L.map fun x => (x, ([] : List Int))) = L := by
      unfold keysM
      rw [List.map_map]
      exact List.map_id'' (fun _ => rfl) L
    rw [e]
    exact nd
  · rw [← F.2]
    constructor
    · intro h
      obtain ⟨y, hy, e⟩ := List.mem_map.mp h
      obtain ⟨i, hi, rfl⟩ := List.mem_map.mp (hp.mem_iff.mp hy)
      exact List.mem_map.mpr ⟨i, hi, e⟩
    · intro h
      obtain ⟨i, hi, e⟩ := List.mem_map.mp h
      exact List.mem_map.mpr ⟨unit P.length i, hp.mem_iff.mpr (List.mem_map.mpr ⟨i, hi, rfl⟩), e⟩
  · rw [hp.mem_iff]
    exact hL x
end K31

set_option Elab.async false
set_option linter.all false
set_option maxRecDepth 100000
set_option maxHeartbeats 4000000
namespace K31
open PySem PySem.Spec PyProof.Rows L2
/-! ### the walk, 11: all_up -/
section
variable {P : Program} {w : World} {K : PySem.W.Frag} {mg : Str → Option Value} {base : Heap}
def spAllUp (P : Program) (w : World) (K : PySem.W.Frag) : Sp := fun vs H Q _ => ∃ (a : Addr) (M : Mat) (RD : List (Vec × Nat)), vs = [.ref a] ∧ HallAt K H a M ∧ Shape M ∧ Roots M RD ∧ ∀ H' d m, Same H H' → XT P w H' d m → AllInv M RD m → Q (.ref d) H'
abbrev n_all_up : List Str := ["hall", "found", "layer", "lamp", "arrow", "later", "more", "way"]
theorem sc_all_up : FnScope n_all_up ["hall"] (defScope s_all_up) := ⟨rfl, rfl, rfl, by decide +kernel, rfl, by decide +kernel, by decide +kernel⟩
theorem refs_at {bs : List TB} {i : Nat} {x : V} (h : (bs.map fun b => V.ref b.1)[i]? = some x) : ∃ b, bs[i]? = some b ∧ x = .ref b.1 := by
  rw [List.getElem?_map] at h
  cases e : bs[i]? with
  | none => rw [e] at h; cases h
  | some b => rw [e] at h; exact ⟨b, rfl, (Option.some.inj h).symm⟩
theorem tb_of {H : Hp} {n : Nat} {f : Nat → List Int} {ys : List V} (l : ys.length = n) (h : ∀ j y, ys[j]? = some y → ∃ t, y = .ref t ∧ PT H t (f j)) : ∃ bs : List TB, ys = bs.map (fun b => V.ref b.1) ∧ bs.map (·.2) = (List.range n).map f ∧ ∀ b ∈ bs, PT H b.1 b.2 := by
  have h2 : ∀ j, ∃ t, j < n → ys[j]? = some (.ref t) ∧ PT H t (f j) := fun j => by
    by_cases hj : j < n
    · have e : ys[j]? = some (ys[j]'(by omega)) := List.getElem?_eq_getElem (by omega)
      obtain ⟨t, e2, p⟩ := h j _ e
      exact ⟨t, fun _ => ⟨by rw [e, e2], p⟩⟩
    · exact ⟨0, fun z => absurd z hj⟩
  refine ⟨(List.range n).map fun j => ((h2 j).choose, f j), ?_, by rw [List.map_map]; rfl, fun b hb => ?_⟩
  · apply List.ext_getElem?
    intro j
    rw [List.map_map, List.getElem?_map]
    by_cases hj : j < n
    · rw [List.getElem?_range hj, ((h2 j).choose_spec hj).1]
      rfl
    · rw [List.getElem?_eq_none (by omega), List.getElem?_eq_none (by simp; omega)]
      rfl
  · obtain ⟨j, hj, rfl⟩ := List.mem_map.mp hb
    exact ((h2 j).choose_spec (List.mem_range.mp hj)).2
theorem nodup_take {α : Type} {l : List α} (nd : l.Nodup) {i : Nat} {x : α} (h : l[i]? = some x) : x ∉ l.take i := by
  intro hx
  obtain ⟨j, hj⟩ := List.mem_iff_getElem?.mp hx
  rw [List.getElem?_take] at hj
  split at hj
  · rename_i hji
    have := nd_ix nd hj h
    omega
  · cases hj
theorem zero_add_nat (i : Nat) : (0 : Int) + (i : Int) = (i : Nat) := by omega
theorem pt_ne {H : Hp} {a D : Addr} {ns : List Int} {u : HO} (h : PT H a ns) (e : H D = some u) (n : ∀ o v, u ≠ .frz o v) : a ≠ D := by
  obtain ⟨o, h, _⟩ := h
  exact ne_of h e (fun z => n _ _ z.symm)
theorem ok_all_up (E : Ev K mg) (D : Dd K mg "all_up" s_all_up) (L : CaLen P w K mg base) (C1 : Ca P w K mg base 3 "unit_of" ["hall", "lamp"] (spUnit K)) (C2 : Ca P w K mg base 1 "turned" ["hall", "arrow", "lamp"] (spTurned K)) : Ca P w K mg base 4 "all_up" ["hall"] (spAllUp P w K) := by
  refine mk_ca (k := 3) D sc_all_up (fun vs H Q E h => ?_) (fun _ _ _ _ _ _ us hl => match us, hl with | [_], _ => rfl) (fun f cd A outer s H vs Q E' hr h => ?_)
  · obtain ⟨a, M, RD, rfl, _⟩ := h
    rfl
  obtain ⟨a, M, RD, rfl, hh, S, R, q⟩ := h
  have hu := hu_of hr
  have hn8 := S.le
  have hn1 := S.pos
  have hr2 : Room 2 _ := hr.mono (by decide)
  have Gr := R.grade_up S
  have hnf : ∀ {m : Tab} {k : Nat}, FoundInv M RD k m → m.length ≤ 1000 := fun F => Nat.le_trans (found_le F.1 fun x hx => by
    obtain ⟨j, _, h⟩ := F.key.mp hx
    exact ⟨j, h⟩) R.bnd
  refine ⟨_, pss_cons (ps_par (i := 1) (j := 2) rfl sc_all_up.nd rfl rfl (by decide) rfl rfl (pa_cons pe_xnew (pa_cons (pe_callB (cr_sortedT (hu3 hr)) (by rfl) E.srt boot_sorted (pa_cons (pe_lcW (own := [("lamp", 3)]) (g := gName 3) rfl sc_all_up.nd
        (pi_range1 (by rfl) E.rng (pa_cons (pe_callB (call_hlen L E.hlen hr2) (by rfl) E.len PySem.boot_len (pa_cons (pv 0) pa_nil)) pa_nil)) (blkOk_by (N := n_all_up) (sc := defScope s_all_up) (by decide +kernel)) (fun _ _ _ _ _ => pg_name (i := 3) sc_all_up.nd rfl (.inl rfl))
        (fun _ _ _ _ _ => pe_ca C1 hr (by rfl) (pa_cons (pv 0) (pa_cons (pv 3) pa_nil)))) pa_nil)) pa_nil)) (by rfl))
    (pss_cons (ps_forW rfl (pi_list (pv 2)) (pg_name (i := 4) sc_all_up.nd rfl (.inl rfl)) (pss_one (ps_xput hu (pv 1) (pv 4) (pe_tup pa_nil))))
    (pss_cons (ps_while PassesOwn.never (pt_cmpR (op_neTb hr.units) (pv 2) (pe_lst pa_nil) (nomark _))
      (pss_cons (ps_set (i := 5) sc_all_up.nd rfl (.inl rfl) pe_xnew)
      (pss_cons (ps_forW rfl (pi_list (pv 2)) (pg_name (i := 4) sc_all_up.nd rfl (.inl rfl))
        (pss_one (ps_forW rfl (pi_range1 (by rfl) E.rng (pa_cons (pe_callB (call_hlen L E.hlen hr2) (by rfl) E.len PySem.boot_len (pa_cons (pv 0) pa_nil)) pa_nil)) (pg_name (i := 3) sc_all_up.nd rfl (.inl rfl))
          (pss_cons (ps_set (i := 6) sc_all_up.nd rfl (.inl rfl) (pe_ca (C2.mono (by decide)) hr (by rfl) (pa_cons (pv 0) (pa_cons (pv 4) (pa_cons (pv 3) pa_nil)))))
          (pss_cons (ps_set (i := 7) sc_all_up.nd rfl (.inl rfl) (pe_tup (pa_cons (pv 3) (StX.pa_star (pe_xget hu (pv 1) (pv 4) (fun _ _ => rfl)) pa_nil))))
          (pss_one (ps_if (pw_and (pt_cmp (pc_xnotin hu (pv 6) (pv 1)) (by rfl)) (pw_and1 (pt_cmpR op_gt (pe_callB (cr_sumT rfl) (by rfl) E.sum boot_sum (pa_cons (pv 6) pa_nil)) (pe_callB (cr_sumT rfl) (by rfl) E.sum boot_sum (pa_cons (pv 4) pa_nil)) (nomark _)))).pt
            (pss_one (ps_xput hu (pv 5) (pv 6) (pe_callB (cr_minT rfl (Nat.lt_of_succ_lt (hu3 hr))) (by rfl) E.min boot_min (pa_cons (pe_xget2 hu (pv 5) (pv 6) (pv 7) ⟨rfl, rfl, rfl, rfl⟩) (pa_cons (pv 7) pa_nil))))) pss_nil))))))) 
      (pss_cons (ps_expr (pe_xupd hu (pv 1) (pv 5) ⟨rfl, rfl, rfl, rfl⟩))
      (pss_one (ps_set (i := 2) sc_all_up.nd rfl (.inl rfl) (pe_callTy (call_xlist rfl) (by rfl) E.lst boot_list (pa_cons (pv 5) pa_nil))))))))
    (pss_one (ps_ret (pv 1))))), ?_⟩
  -- found, layer = {}, sorted([..])
  refine fun fd H0 nfd s0 x0 => ?_
  refine ⟨.ref a, rfl, a, M, rfl, hh.same s0, S, (M.length : Nat), rfl, by omega, by omega, lc_walk walk_rng (small1000 (by omega)) (fun _ _ => trivial) (fun D j y H => ∃ t, y = .ref t ∧ t ≠ D ∧ PT H t (unit M.length j)) (fun D j y H H' r sb => ?_) (fun D j x H2 H3 Kc hj s2 hD hy kc => ?_) (fun D H2 ys nD s2 e2 l2 r2 => ?_)⟩
  · obtain ⟨t, e, n, p⟩ := r
    exact ⟨t, e, n, p.sb sb n⟩
  · obtain ⟨rfl, rfl⟩ := hy
    obtain ⟨ys, hD⟩ := hD
    rw [zero_add_nat]
    refine ⟨rfl, .ref a, rfl, .int (j : Nat), rfl, a, M, j, rfl, hh.same (s0.trans s2), S, fun H4 t s4 ht => kc _ _ s4 ⟨t, rfl, pt_ne ht (s4 _ _ hD) (fun _ _ z => nomatch z), ht⟩⟩
  obtain ⟨bs0, rfl, hb0, hp0⟩ := tb_of (f := fun j => unit M.length j) l2 (fun j y e => by
    obtain ⟨t, e1, _, p⟩ := r2 j y e
    exact ⟨t, e1, p⟩)
  have hbn : ∀ b ∈ bs0, TupB H2 b := fun b hb => ⟨(hp0 b hb).it, fun z => by
    have hm : b.2 ∈ bs0.map (·.2) := List.mem_map.mpr ⟨b, hb, rfl⟩
    rw [hb0] at hm
    obtain ⟨j, _, e⟩ := List.mem_map.mp hm
    have e3 := congrArg List.length e
    rw [unit_length, z, List.length_nil] at e3
    omega⟩
  refine ⟨D, bs0, rfl, .inl (.inl e2), hbn, fun cs p hcs np => ⟨_, _, rfl, ?_⟩⟩
  have sP : Same H2 (upd H2 p (.lst (cs.map fun b => V.ref b.1))) := same_upd np
  have hLp : List.Perm (cs.map (·.2)) ((List.range M.length).map fun i => unit M.length i) := by
    have z := hcs.map (·.2)
    rw [hb0] at z
    exact z
  obtain ⟨F0, L0, nd0⟩ := start_perm Gr hLp
  have hcl : cs.length = M.length := by
    have z := hLp.length_eq
    simpa using z
  have hpc : ∀ b ∈ cs, PT H2 b.1 b.2 := fun b hb => hp0 b (hcs.mem_iff.mp hb)
  have s02 := s0.trans s2
  have x2 : XT P w H2 fd [] := x0.same s2
  -- for arrow in layer: found[arrow] = ()
  refine ⟨.ref p, rfl, p, rfl, ⟨_, .inl (.inl upd_same)⟩, for_walk (walk_list (xs := cs.map fun b => V.ref b.1)) (fun i σ H' => ∃ y4, σ = [some (.ref a), some (.ref fd), some (.ref p), none, y4, none, none, none] ∧ Same H H' ∧ H' p = some (.lst (cs.map fun b => V.ref b.1)) ∧ (∀ b ∈ cs, PT H' b.1 b.2) ∧ XT P w H' fd ((cs.take i).map fun b => (b.2, [])))
    ⟨none, rfl, s02.trans sP, upd_same, fun b hb => (hpc b hb).same sP, x2.same sP⟩ (fun i σ H' _ h => ?_) (fun i v σ H3 H4 hi h hy => ?_) (fun σ H3 h => ?_)⟩
  · obtain ⟨_, _, _, e, _⟩ := h
    exact .inl (.inl e)
  · obtain ⟨y4, rfl, s3, e3, p3, x3⟩ := h
    obtain ⟨rfl, hv⟩ := hy
    obtain ⟨b, hb, rfl⟩ := refs_at hv
    have hbm := List.mem_of_getElem? hb
    refine ⟨Nat.zero_le _, fun p0 np0 => ?_⟩
    have sT : Same H4 (upd H4 p0 (.tup [])) := same_upd np0
    obtain ⟨φ, eφ⟩ := x3.some
    refine ⟨.ref fd, rfl, .ref b.1, rfl, fd, b.1, p0, b.2, [], _, rfl, rfl, rfl, x3.same sT, (p3 b hbm).same sT, .inl upd_same, ?_, fun H5 sb5 x5 => ?_⟩
    · rw [List.length_map, List.length_take]
      exact small1000 (by omega)
    · have hne : p ≠ fd := ne_of e3 eφ (fun z => nomatch z)
      have hLi : (cs.map (·.2))[i]? = some b.2 := by rw [List.getElem?_map, hb]; rfl
      have hk : b.2 ∉ keysM ((cs.take i).map fun b => (b.2, ([] : List Int))) := by
        have z := nodup_take nd0 hLi
        have e : keysM ((cs.take i).map fun b => (b.2, ([] : List Int))) = (cs.map (·.2)).take i := by
          unfold keysM
          rw [List.map_map, ← List.map_take]
          rfl
        rw [e]
        exact z
      rw [putM_new _ hk] at x5
      have e5 : (cs.take i).map (fun b => (b.2, ([] : List Int))) ++ [(b.2, [])] = (cs.take (i + 1)).map fun b => (b.2, []) := by
        rw [List.take_add_one, hb, List.map_append]
        rfl
      rw [e5] at x5
      exact ⟨_, rfl, same_sb nfd (s3.trans sT) sb5, sb5 _ _ hne (sT _ _ e3), fun c hc => ((p3 c hc).same sT).sb sb5 (pt_ne ((p3 c hc).same sT) (sT _ _ eφ) (fun _ _ z => nomatch z)), x5⟩
  obtain ⟨y4, rfl, s3, e3, p3, x3⟩ := h
  have etk : (cs.take (cs.map fun b => V.ref b.1).length).map (fun b => (b.2, ([] : List Int))) = (cs.map (·.2)).map fun x => (x, []) := by
    rw [List.length_map, List.take_length, List.map_map]
    rfl
  rw [etk] at x3
  -- while layer != []
  refine ⟨fun m σ H' => ∃ ly y3 y4 y5 y6 y7 bs found k, σ = [some (.ref a), some (.ref fd), some (.ref ly), y3, y4, y5, y6, y7] ∧ Same H H' ∧ XT P w H' fd found ∧ H' ly = some (.lst (List.map (fun b : TB => V.ref b.1) bs)) ∧ (∀ b ∈ bs, PT H' b.1 b.2) ∧ FoundInv M RD k found ∧ LayerInv RD k (List.map (fun b : TB => b.2) bs) ∧ (List.map (fun b : TB => b.2) bs).Nodup ∧
      (bs ≠ [] → k + 1 ≤ found.length) ∧ m = (1000 - found.length) + (if bs = [] then 0 else 1), ⟨_, p, none, y4, none, none, none, cs, _, 0, rfl, s3, x3, e3, p3, F0, L0, nd0, fun _ => by rw [List.length_map, List.length_map]; omega, rfl⟩, ?_⟩
  rintro m σ H4 ⟨ly, y3, y4, y5, y6, y7, bs, found, k, rfl, s4, x4, e4, p4, F, hL, hnd, hk, rfl⟩
  refine ⟨.ref ly, rfl, Nat.zero_le _, fun e ne => ?_⟩
  have sE : Same H4 (upd H4 e (.lst [])) := same_upd ne
  refine ⟨ly, e, bs, rfl, rfl, .inl (.inl (sE _ _ e4)), fun b hb => ((p4 b hb).same sE).it, .inl (.inl upd_same), _, rfl, ?_⟩
  by_cases hbs : bs = []
  · subst hbs
    refine iteF ⟨.ref fd, rfl, q _ fd found (s4.trans sE) (x4.same sE) (bfs_done Gr F hL)⟩
  have hie : bs.isEmpty = false := by cases bs with
    | nil => exact absurd rfl hbs
    | cons b r => rfl
  rw [hie]
  have hfl := hnf F
  have hkl := hk hbs
  refine iteT ⟨fun σ' H' => ∃ m', m' < (1000 - found.length) + (if bs = [] then 0 else 1) ∧ ∃ ly y3 y4 y5 y6 y7 bs found k, σ' = [some (.ref a), some (.ref fd), some (.ref ly), y3, y4, y5, y6, y7] ∧ Same H H' ∧ XT P w H' fd found ∧ H' ly = some (.lst (List.map (fun b : TB => V.ref b.1) bs)) ∧ (∀ b ∈ bs, PT H' b.1 b.2) ∧ FoundInv M RD k found ∧ LayerInv RD k (List.map (fun b : TB => b.2) bs) ∧ (List.map (fun b : TB => b.2) bs).Nodup ∧
      (bs ≠ [] → k + 1 ≤ found.length) ∧ m' = (1000 - found.length) + (if bs = [] then 0 else 1), fun σ' H' h => h, ?_⟩
  -- B0: the heap ahead of the layer's search
  obtain ⟨B0, hB0⟩ : ∃ B0, B0 = upd H4 e (.lst []) := ⟨_, rfl⟩
  rw [← hB0] at sE ⊢
  have sB := s4.trans sE
  have xB := x4.same sE
  have eB := sE _ _ e4
  have pB : ∀ b ∈ bs, PT B0 b.1 b.2 := fun b hb => (p4 b hb).same sE
  have hbl : bs.length ≤ 1000 := by
    have z := nodup_le (m := RD.map (·.1)) hnd fun x hx => List.mem_map.mpr ⟨(x, k), (hL x).mp hx, rfl⟩
    rw [List.length_map, List.length_map] at z
    exact Nat.le_trans z R.bnd
  have bLen : ∀ b ∈ bs, b.2.length = M.length := fun b hb => R.len _ ((hL b.2).mp (List.mem_map.mpr ⟨b, hb, rfl⟩))
  have bLook : ∀ b ∈ bs, lookM found b.2 = some (fw found b.2) ∧ (fw found b.2).length ≤ 1000 := fun b hb => by
    have hg := (hL b.2).mp (List.mem_map.mpr ⟨b, hb, rfl⟩)
    have e1 := F.fw (Nat.le_refl k) hg
    refine ⟨?_, ?_⟩
    · rw [e1]
      exact mem_look F.1 ((F.2 b.2 _).mpr ⟨k, Nat.le_refl k, hg, rfl⟩)
    · rw [e1]
      have := way_len M RD k b.2
      omega
  have hprod : ∀ j, j ≤ bs.length → j * M.length ≤ 8000 := fun j hj => Nat.le_trans (Nat.mul_le_mul (Nat.le_trans hj hbl) hn8) (by decide)
  refine fun lt B1 nlt sB1 xlt => ?_
  -- the layer's arrows
  refine ⟨.ref ly, rfl, ly, rfl, ⟨_, .inl (.inl (sB1 _ _ eB))⟩, for_walk (walk_list (xs := bs.map fun b => V.ref b.1)) (fun j σ H' => ∃ y3 y4 y6 y7, σ = [some (.ref a), some (.ref fd), some (.ref ly), y3, y4, some (.ref lt), y6, y7] ∧ Same B0 H' ∧ XT P w H' lt (((List.map (fun b : TB => b.2) bs).take j).foldl (rowM upC M found M.length) []))
    ⟨y3, y4, y6, y7, rfl, sB1, xlt⟩ (fun j σ H' _ h => ?_) (fun j v σ H5 H6 hj h hy => ?_) (fun σ H5 h => ?_)⟩
  · obtain ⟨_, _, _, _, _, s5, _⟩ := h
    exact .inl (.inl (s5 _ _ eB))
  · obtain ⟨y3, y4, y6, y7, rfl, s5, x5⟩ := h
    obtain ⟨rfl, hv⟩ := hy
    obtain ⟨b, hb, rfl⟩ := refs_at hv
    have hbm := List.mem_of_getElem? hb
    have hLj : (List.map (fun b : TB => b.2) bs)[j]? = some b.2 := by rw [List.getElem?_map, hb]; rfl
    have hjl : j < bs.length := (List.getElem?_eq_some_iff.mp hb).1
    obtain ⟨hlook, hwl⟩ := bLook b hbm
    have hplen := layPart_len upC M found M.length (List.map (fun b : TB => b.2) bs) j (by rw [List.length_map]; omega)
    have hp8 := hprod j (by omega)
    refine ⟨.ref a, rfl, a, M, rfl, hh.same (sB.trans s5), S, (M.length : Nat), rfl, by omega, by omega, for_walk walk_rng (fun i σ H' => ∃ y3 y6 y7, σ = [some (.ref a), some (.ref fd), some (.ref ly), y3, some (.ref b.1), some (.ref lt), y6, y7] ∧ Same B0 H' ∧
      XT P w H' lt ((List.range i).foldl (stepM upC M found b.2) (((List.map (fun b : TB => b.2) bs).take j).foldl (rowM upC M found M.length) []))) ⟨y3, y6, y7, rfl, s5, x5⟩ (fun _ _ _ _ _ => trivial) (fun i v σ H7 H8 hi h hy => ?_) (fun σ H7 h => ?_)⟩
    · obtain ⟨y3, y6, y7, rfl, s7, x7⟩ := h
      obtain ⟨rfl, rfl⟩ := hy
      rw [zero_add_nat]
      have hiM : i < M.length := by omega
      have hilen := rowPart_len upC M found b.2 (((List.map (fun b : TB => b.2) bs).take j).foldl (rowM upC M found M.length) []) i
      rw [range_fold]
      obtain ⟨lat, hlat⟩ : ∃ lat, lat = (List.range i).foldl (stepM upC M found b.2) (((List.map (fun b : TB => b.2) bs).take j).foldl (rowM upC M found M.length) []) := ⟨_, rfl⟩
      rw [← hlat] at x7 hilen ⊢
      refine ⟨.ref a, rfl, .ref b.1, rfl, .int (i : Nat), rfl, a, b.1, M, b.2, i, rfl, hh.same (sB.trans s7), S, ((pB b hbm).same s7).it, bLen b hbm, hiM, fun H9 tm s9 hm => ?_⟩
      have s79 := s7.trans s9
      refine ⟨.int (i : Nat), rfl, .ref fd, rfl, .ref b.1, rfl, fd, b.1, found, b.2, _, rfl, rfl, xB.same s79, ((pB b hbm).same s79).it, hlook, fun v hv => ⟨v, _, rfl, .inl hv.sq, ?_⟩⟩
      dsimp only [tNil]
      have ewt : V.int (i : Nat) :: ((fw found b.2).map V.int ++ []) = (((i : Int) :: fw found b.2).map V.int) := by simp
      rw [ewt]
      refine ⟨by rw [List.length_map, List.length_cons]; exact Nat.le_of_lt (Nat.lt_of_le_of_lt (Nat.succ_le_succ hwl) (by decide)), fun tw ntw => ?_⟩
      have sW : Same H9 (upd H9 tw (.tup (((i : Int) :: fw found b.2).map V.int))) := same_upd ntw
      obtain ⟨H10, hH10⟩ : ∃ H10, H10 = upd H9 tw (.tup (((i : Int) :: fw found b.2).map V.int)) := ⟨_, rfl⟩
      have hw10 : IT H10 tw ((i : Int) :: fw found b.2) := by rw [hH10]; exact .inl upd_same
      rw [← hH10] at sW ⊢
      have s10 := s79.trans sW
      have x10 : XT P w H10 lt lat := (x7.same s9).same sW
      have m10 : PT H10 tm (turn M b.2 i) := hm.same sW
      refine ⟨.ref tm, rfl, .ref fd, rfl, fd, tm, found, turn M b.2 i, rfl, rfl, xB.same s10, m10.it, _, rfl, ?_⟩
      unfold stepM
      cases hlk : lookM found (turn M b.2 i) with
      | some o =>
        refine iteF ?_
        refine iteF ⟨_, _, _, rfl, s10, x10⟩
      | none =>
        refine iteT ⟨.ref tm, rfl, tm, _, rfl, m10.it.sq, .ref b.1, rfl, b.1, b.2, rfl, ((pB b hbm).same s10).it.sq, _, _, rfl, rfl, _, rfl, ?_⟩
        by_cases hup : b.2.sum < (turn M b.2 i).sum
        · have eup : upC b.2 (turn M b.2 i) = true := decide_eq_true hup
          rw [decide_eq_true hup]
          refine iteT ⟨.ref lt, rfl, lt, lat, rfl, x10, .ref tm, rfl, .ref tw, rfl, tm, tw, lat, turn M b.2 i, _, rfl, rfl, x10, m10.it, hw10, fun v hv => ⟨.ref tw, rfl, v, tw, _, _, rfl, hv.sq, hw10.sq, ?_⟩⟩
          have hva : IT H10 (if HT.lexLt ((i : Int) :: fw found b.2) ((lookM lat (turn M b.2 i)).getD ((i : Int) :: fw found b.2)) = true then tw else v) (best (lookM lat (turn M b.2 i)) ((i : Int) :: fw found b.2)) := by
            rw [lex_eq]
            cases hl : lookM lat (turn M b.2 i) with
            | none =>
              rw [hl] at hv
              show IT H10 (if lexLt ((i : Int) :: fw found b.2) ((i : Int) :: fw found b.2) = true then tw else v) ((i : Int) :: fw found b.2)
              rw [lexLt_irrefl, if_neg Bool.false_ne_true]
              exact hv
            | some o =>
              rw [hl] at hv
              show IT H10 (if lexLt ((i : Int) :: fw found b.2) o = true then tw else v) (if lexLt ((i : Int) :: fw found b.2) o = true then ((i : Int) :: fw found b.2) else o)
              split
              · exact hw10
              · exact hv
          refine ⟨.ref lt, rfl, .ref tm, rfl, lt, tm, _, turn M b.2 i, _, lat, rfl, rfl, rfl, x10, m10, hva, ?_, fun H11 sb11 x11 => ?_⟩
          · exact Nat.lt_of_le_of_lt (show lat.length ≤ 9000 by omega) (by decide)
          · refine ⟨_, _, _, rfl, same_sb nlt s10 sb11, ?_⟩
            rw [if_pos (by rw [eup]; rfl)]
            exact x11
        · have eup : upC b.2 (turn M b.2 i) = false := decide_eq_false hup
          rw [decide_eq_false hup]
          refine iteF ⟨_, _, _, rfl, s10, ?_⟩
          rw [if_neg (by rw [eup]; decide)]
          exact x10
    · obtain ⟨y3, y6, y7, rfl, s7, x7⟩ := h
      refine ⟨_, _, _, _, rfl, s7, ?_⟩
      rw [fold_succ _ _ _ hLj]
      have e1 : ((M.length : Nat) : Int).toNat = M.length := Int.toNat_natCast _
      rw [e1] at x7
      exact x7
  -- found.update(later); layer = list(later)
  obtain ⟨y3, y4, y6, y7, rfl, s5, x5⟩ := h
  have etk2 : (List.map (fun b : TB => b.2) bs).take (bs.map fun b => V.ref b.1).length = bs.map (·.2) := List.take_of_length_le (by simp)
  rw [etk2] at x5
  obtain ⟨F2, L2'⟩ := bfs_step S Gr F hL
  obtain ⟨g1, g2'⟩ := grows S Gr F hL
  obtain ⟨ndl, _⟩ := layer_next S Gr F hL
  have hfl2 := hnf F2
  have x5' : XT P w H5 lt (layerM upC M found M.length (List.map (fun b : TB => b.2) bs)) := x5
  have xf5 := xB.same s5
  have hne : fd ≠ lt := by
    obtain ⟨φ, eφ⟩ := xB.some
    exact ne_of_none eφ nlt
  have hll : (layerM upC M found M.length (List.map (fun b : TB => b.2) bs)).length ≤ 8000 := by
    have z := layPart_len upC M found M.length (List.map (fun b : TB => b.2) bs) (List.map (fun b : TB => b.2) bs).length (Nat.le_refl _)
    rw [List.take_length] at z
    have z2 := hprod bs.length (Nat.le_refl _)
    rw [List.length_map] at z
    exact Nat.le_trans z z2
  refine ⟨.ref fd, rfl, fd, found, rfl, xf5, .ref lt, rfl, lt, found, _, rfl, hne, xf5, x5', fun z => by rw [z] at hkl; simp at hkl, Nat.le_of_lt (Nat.lt_of_le_of_lt (Nat.add_le_add hfl hll) (by decide)), fun H6 sb6 x6 => ?_⟩
  have xl6 := x5'.sb xf5 hne.symm sb6
  refine ⟨.ref lt, rfl, lt, _, rfl, xl6, fun p2 bs2 np2 hk2 => ?_⟩
  have s6 : Same H H6 := same_sb nfd (sB.trans s5) sb6
  have sP2 : Same H6 (upd H6 p2 (.lst (bs2.map fun b => V.ref b.1))) := same_upd np2
  refine ⟨_, ?_, p2, _, _, _, _, _, bs2, _, k + 1, rfl, s6.trans sP2, x6.same sP2, upd_same, fun b hb => (hk2.2 b hb).same sP2, F2, by rw [hk2.1]; exact L2', by rw [hk2.1]; exact ndl, fun hb2 => ?_, rfl⟩
  · rw [if_neg hbs]
    by_cases hl0 : layerM upC M found M.length (List.map (fun b : TB => b.2) bs) = []
    · have hb0' : bs2 = [] := by
        have z := hk2.1
        rw [hl0] at z
        exact List.map_eq_nil_iff.mp z
      rw [if_pos hb0', g2' hl0]
      omega
    · have z := g1 hl0
      split <;> omega
  · have hl0 : layerM upC M found M.length (List.map (fun b : TB => b.2) bs) ≠ [] := fun z => hb2 (by
      have z2 := hk2.1
      rw [z] at z2
      exact List.map_eq_nil_iff.mp z2)
    have z := g1 hl0
    omega
end
end K31

set_option Elab.async false
set_option linter.all false
set_option maxRecDepth 100000
set_option maxHeartbeats 4000000
namespace K31
open PySem PySem.Spec PyProof.Rows L2
/-! ### the walk, 12: what is asked of an arrow -/
theorem depth_list {P : Mat} {G : List (Vec × Nat)} {cond : Vec → Vec → Bool} (D : Grade P G cond) : ∀ (k : Nat) (x : Vec), (x, k) ∈ G → ∃ l : List (Vec × Nat), l.length = k + 1 ∧ l.Nodup ∧ ∀ p ∈ l, p ∈ G ∧ p.2 ≤ k
  | 0, x, h => ⟨[(x, 0)], rfl, by simp, fun p hp => by rw [List.mem_singleton.mp hp]; exact ⟨h, Nat.le_refl _⟩⟩
  | k + 1, x, h => by
    obtain ⟨i, _, h2⟩ := D.down x k h
    obtain ⟨l, h3, h4, h5⟩ := depth_list D k _ h2
    refine ⟨(x, k + 1) :: l, by simp [h3], List.nodup_cons.mpr ⟨fun hm => ?_, h4⟩, fun p hp => ?_⟩
    · have := (h5 _ hm).2
      simp at this
      omega
    · rcases List.mem_cons.mp hp with e | hp
      · rw [e]; exact ⟨h, Nat.le_refl _⟩
      · exact ⟨(h5 p hp).1, Nat.le_succ_of_le (h5 p hp).2⟩
theorem depth_le {P : Mat} {G : List (Vec × Nat)} {cond : Vec → Vec → Bool} (D : Grade P G cond) {k : Nat} {x : Vec} (h : (x, k) ∈ G) : k ≤ G.length := by
  obtain ⟨l, h1, h2, h3⟩ := depth_list D k x h
  have := nodup_le h2 fun p hp => (h3 p hp).1
  omega
theorem way_mem (P : Mat) (G : List (Vec × Nat)) : ∀ (k : Nat) (x : Vec), ∀ z ∈ way P G k x, ∃ i : Nat, z = (i : Int) ∧ i < P.length
  | 0, _, z, h => nomatch h
  | k + 1, x, z, h => by
    unfold way at h
    split at h
    · rename_i i e
      rcases List.mem_cons.mp h with h | h
      · exact ⟨i, h, List.mem_range.mp (List.mem_of_find?_eq_some e)⟩
      · exact way_mem P G k _ z h
    · exact nomatch h
theorem along_succ (P : Mat) (v : Vec) (l : List Int) {i : Nat} {z : Int} (h : l[i]? = some z) : along P v (l.take (i + 1)) = turn P (along P v (l.take i)) z.toNat := fold_succ _ _ _ h
theorem along_len (P : Mat) : ∀ (l : List Int) (v : Vec), (along P v l).length = v.length
  | [], _ => rfl
  | z :: l, v => by
    show (along P (turn P v z.toNat) l).length = _
    rw [along_len P l, turn_length]
theorem SR_len {P : Mat} {RD : List (Vec × Nat)} (R : Roots P RD) {x : Vec} {k : Nat} (h : (x, k) ∈ SR RD) : x.length = P.length := by
  rcases mem_SR.mp h with h | ⟨v, j, hv, rfl, rfl⟩
  · exact R.len _ h
  · rw [neg_length]
    exact R.len _ hv
theorem upOf_len (x : Vec) : (upOf x).length = x.length := by
  unfold upOf
  split
  · rfl
  · exact neg_length x
theorem TyX.same {K : PySem.W.Frag} {H H' : Hp} (s : Same H H') {v : V} {t : Value} (h : TyX K H v t) : TyX K H' v t := by
  cases h with
  | base b =>
    refine .base ?_
    cases b with
    | non => exact .non
    | bl x => exact .bl x
    | int x => exact .int x
    | str x => exact .str x
    | flt x => exact .flt x
    | lst e => exact .lst (s _ _ e)
    | frz e => exact .frz (s _ _ e)
    | tup e => exact .tup (s _ _ e)
    | dK e => exact .dK (s _ _ e)
    | dT e => exact .dT (s _ _ e)
    | ins e a b c d f => exact .ins (s _ _ e) a b c d f
  | byt b => exact .byt b
  | set e => exact .set (s _ _ e)
  | kList a b => exact .kList a b
  | kTuple a b => exact .kTuple a b
  | kDict a b => exact .kDict a b
  | fTuple e => exact .fTuple (s _ _ e)
  | fDict e => exact .fDict (s _ _ e)
theorem NotInt.same {K : PySem.W.Frag} {H H' : Hp} (s : Same H H') {v : V} (h : NotInt K H v) : NotInt K H' v := by
  rcases h with h | ⟨T, h, k⟩
  · exact .inl h
  · exact .inr ⟨T, TyX.same s h, k⟩
section
variable {P : Program} {w : World} {K : PySem.W.Frag} {mg : Str → Option Value} {base : Heap}
/-- an arrow of the hall -/
structure Arr (K : PySem.W.Frag) (H : Hp) (a v : Addr) (M : Mat) (u : Vec) (RD : List (Vec × Nat)) (x : Vec) : Prop where
  hall : HallAt K H a M
  shape : Shape M
  wit : Wit M u
  roots : Roots M RD
  at_ : PT H v x
  mem : ∃ k, (x, k) ∈ SR RD
theorem Arr.same {H H' : Hp} (s : Same H H') {a v : Addr} {M : Mat} {u : Vec} {RD : List (Vec × Nat)} {x : Vec} (h : Arr K H a v M u RD x) : Arr K H' a v M u RD x := ⟨h.hall.same s, h.shape, h.wit, h.roots, h.at_.same s, h.mem⟩
def spIsArrow (K : PySem.W.Frag) : Sp := fun vs H Q _ => ∃ (a v : Addr) (M : Mat) (u : Vec) (RD : List (Vec × Nat)) (x : Vec), vs = [.ref a, .ref v] ∧ Arr K H a v M u RD x ∧ ∀ H', Same H H' → Q (.bl true) H'
theorem sc_is_arrow : FnScope ["hall", "value"] ["hall", "value"] (defScope s_is_any_arrow) := ⟨rfl, rfl, rfl, by decide +kernel, rfl, by decide +kernel, by decide +kernel⟩
theorem ok_is_arrow (E : Ev K mg) (D : Dd K mg "is_any_arrow" s_is_any_arrow) (C1 : Ca P w K mg base 3 "are_numbers" ["hall", "value"] (spNumbers K)) (C2 : Ca P w K mg base 1 "turned_up" ["arrow"] (spTUp K)) (C3 : Ca P w K mg base 4 "all_up" ["hall"] (spAllUp P w K)) : Ca P w K mg base 5 "is_any_arrow" ["hall", "value"] (spIsArrow K) := by
  refine mk_ca (k := 4) D sc_is_arrow (fun vs H Q E h => ?_) (fun _ _ _ _ _ _ us hl => match us, hl with | [_, _], _ => rfl) (fun f cd A outer s H vs Q E' hr h => ?_)
  · obtain ⟨a, v, M, u, RD, x, rfl, _⟩ := h
    rfl
  obtain ⟨a, v, M, u, RD, x, rfl, h, q⟩ := h
  obtain ⟨k, hk⟩ := h.mem
  have hxl := SR_len h.roots hk
  have hn8 := h.shape.le
  have hu := hu_of hr
  refine ⟨_, pss_one (ps_ret (pe_and (pe_ca (C1.mono (by decide)) hr (by rfl) (pa_cons (pv 0) (pa_cons (pv 1) pa_nil)))
    (pe_one (pe_cmp (pc_xin hu (pe_ca (C2.mono (by decide)) hr (by rfl) (pa_cons (pv 1) pa_nil)) (pe_ca C3 hr (by rfl) (pa_cons (pv 0) pa_nil))) (by rfl))))), ?_⟩
  refine ⟨.ref a, rfl, .ref v, rfl, a, v, M, x, rfl, h.hall, h.shape, h.at_.it, hxl, fun H1 s1 => ⟨true, rfl, iteT ?_⟩⟩
  refine ⟨.ref v, rfl, v, x, rfl, h.at_.same s1, by omega, fun H2 t s2 ht => ?_⟩
  refine ⟨.ref a, rfl, a, M, RD, rfl, h.hall.same (s1.trans s2), h.shape, h.roots, fun H3 d m s3 hd hm => ?_⟩
  refine ⟨d, t, m, upOf x, rfl, rfl, hd, (ht.same s3).it, ?_⟩
  obtain ⟨j, hj⟩ := h.roots.upOf_in hk
  have e := mem_look hm.1 ((hm.2 (upOf x) _).mpr ⟨j, hj, rfl⟩)
  rw [e]
  exact q _ (s1.trans (s2.trans s3))
def spNeedArrow (K : PySem.W.Frag) : Sp := fun vs H Q _ => ∃ (a v : Addr) (M : Mat) (u : Vec) (RD : List (Vec × Nat)) (x : Vec), vs = [.ref a, .ref v] ∧ Arr K H a v M u RD x ∧ ∀ H', Same H H' → Q .non H'
theorem sc_need_arrow : FnScope ["hall", "arrow"] ["hall", "arrow"] (defScope s_need_arrow) := ⟨rfl, rfl, rfl, by decide +kernel, rfl, by decide +kernel, by decide +kernel⟩
theorem ok_need_arrow (E : Ev K mg) (D : Dd K mg "need_arrow" s_need_arrow) (C1 : Ca P w K mg base 4 "need_ending" ["hall"] (spNeedEnding K)) (C2 : Ca P w K mg base 5 "is_any_arrow" ["hall", "value"] (spIsArrow K)) : Ca P w K mg base 6 "need_arrow" ["hall", "arrow"] (spNeedArrow K) := by
  refine mk_ca (k := 5) D sc_need_arrow (fun vs H Q E h => ?_) (fun _ _ _ _ _ _ us hl => match us, hl with | [_, _], _ => rfl) (fun f cd A outer s H vs Q E' hr h => ?_)
  · obtain ⟨a, v, M, u, RD, x, rfl, _⟩ := h
    rfl
  obtain ⟨a, v, M, u, RD, x, rfl, h, q⟩ := h
  refine ⟨_, pss_cons (ps_expr (pe_ca (C1.mono (by decide)) hr (by rfl) (pa_cons (pv 0) pa_nil)))
    (pss_one (ps_if (pt_not (pt_val (pe_ca C2 hr (by rfl) (pa_cons (pv 0) (pa_cons (pv 1) pa_nil))))) pss_never pss_nil)), ?_⟩
  exact ⟨.ref a, rfl, a, M, u, rfl, h.hall, h.shape, h.wit, fun H1 s1 => ⟨.ref a, rfl, .ref v, rfl, a, v, M, u, RD, x, rfl, h.same s1, fun H2 s2 => ⟨true, rfl, iteF (q _ (s1.trans s2))⟩⟩⟩
/-! ### arrows -/
def spArrows (K : PySem.W.Frag) : Sp := fun vs H Q _ => ∃ (a : Addr) (M : Mat) (u : Vec) (RD : List (Vec × Nat)), vs = [.ref a] ∧ HallAt K H a M ∧ Shape M ∧ Wit M u ∧ Roots M RD ∧ ∀ H' l xs m, Same H H' → H' l = some (.lst xs) → xs.length = List.length m → AllInv M RD m → Q (.ref l) H'
theorem sc_arrows : FnScope ["hall"] ["hall"] (defScope s_arrows) := ⟨rfl, rfl, rfl, by decide +kernel, rfl, by decide +kernel, by decide +kernel⟩
theorem ok_arrows (E : Ev K mg) (D : Dd K mg "arrows" s_arrows) (C1 : Ca P w K mg base 4 "need_ending" ["hall"] (spNeedEnding K)) (C2 : Ca P w K mg base 4 "all_up" ["hall"] (spAllUp P w K)) (C3 : Ca P w K mg base 1 "height_of" ["arrow"] (spHeight K)) : Ca P w K mg base 5 "arrows" ["hall"] (spArrows K) := by
  refine mk_ca (k := 4) D sc_arrows (fun vs H Q E h => ?_) (fun _ _ _ _ _ _ us hl => match us, hl with | [_], _ => rfl) (fun f cd A outer s H vs Q E' hr h => ?_)
  · obtain ⟨a, M, u, RD, rfl, _⟩ := h
    rfl
  obtain ⟨a, M, u, RD, rfl, hh, S, W, R, q⟩ := h
  obtain ⟨fh, fdh, Fh, gh, kph, bh⟩ := C3
  have hr3 : Room 3 _ := hr.mono (by decide)
  refine ⟨_, pss_cons (ps_expr (pe_ca C1 hr (by rfl) (pa_cons (pv 0) pa_nil)))
    (pss_one (ps_ret (pe_callBK (cr_sortedKX rfl hr3 Fh bh (fun b H Q hb h => ⟨b, rfl, hb, h⟩)) (by rfl) E.srt boot_sorted (pa_cons (pe_ca C2 hr (by rfl) (pa_cons (pv 0) pa_nil)) pa_nil) (pk_cons (pe_glob (v := .ref fh) (by rfl) gh rfl) pk_nil)))), ?_⟩
  refine ⟨.ref a, rfl, a, M, u, rfl, hh, S, W, fun H1 s1 => ⟨.ref a, rfl, a, M, RD, rfl, hh.same s1, S, R, fun H2 d m s2 hd hm => ⟨d, m, rfl, rfl, hd, fun H3 xs p s3 hl hp => q _ p xs m (s1.trans (s2.trans s3)) hp hl hm⟩⟩⟩
/-! ### turned_arrow -/
def spTurnedArrow (K : PySem.W.Frag) : Sp := fun vs H Q _ => ∃ (a v : Addr) (M : Mat) (u : Vec) (RD : List (Vec × Nat)) (x : Vec) (i : Nat), vs = [.ref a, .ref v, .int i] ∧ Arr K H a v M u RD x ∧ i < M.length ∧ ∀ H' t, Same H H' → PT H' t (turn M x i) → Q (.ref t) H'
theorem sc_turned_arrow : FnScope ["hall", "arrow", "lamp"] ["hall", "arrow", "lamp"] (defScope s_turned_arrow) := ⟨rfl, rfl, rfl, by decide +kernel, rfl, by decide +kernel, by decide +kernel⟩
theorem ok_turned_arrow (E : Ev K mg) (D : Dd K mg "turned_arrow" s_turned_arrow) (C1 : Ca P w K mg base 6 "need_arrow" ["hall", "arrow"] (spNeedArrow K)) (C2 : Ca P w K mg base 3 "need_lamp" ["hall", "lamp"] (spNeedLamp K)) (C3 : Ca P w K mg base 1 "turned" ["hall", "arrow", "lamp"] (spTurned K)) : Ca P w K mg base 7 "turned_arrow" ["hall", "arrow", "lamp"] (spTurnedArrow K) := by
  refine mk_ca (k := 6) D sc_turned_arrow (fun vs H Q E h => ?_) (fun _ _ _ _ _ _ us hl => match us, hl with | [_, _, _], _ => rfl) (fun f cd A outer s H vs Q E' hr h => ?_)
  · obtain ⟨a, v, M, u, RD, x, i, rfl, _⟩ := h
    rfl
  obtain ⟨a, v, M, u, RD, x, i, rfl, h, hi, q⟩ := h
  obtain ⟨k, hk⟩ := h.mem
  refine ⟨_, pss_cons (ps_expr (pe_ca C1 hr (by rfl) (pa_cons (pv 0) (pa_cons (pv 1) pa_nil))))
    (pss_cons (ps_expr (pe_ca (C2.mono (by decide)) hr (by rfl) (pa_cons (pv 0) (pa_cons (pv 2) pa_nil))))
    (pss_one (ps_ret (pe_ca (C3.mono (by decide)) hr (by rfl) (pa_cons (pv 0) (pa_cons (pv 1) (pa_cons (pv 2) pa_nil))))))), ?_⟩
  refine ⟨.ref a, rfl, .ref v, rfl, a, v, M, u, RD, x, rfl, h, fun H1 s1 => ⟨.ref a, rfl, .int (i : Nat), rfl, a, M, (i : Nat), rfl, h.hall.same s1, h.shape, by omega, by omega, ?_⟩⟩
  exact ⟨.ref a, rfl, .ref v, rfl, .int (i : Nat), rfl, a, v, M, x, i, rfl, h.hall.same s1, h.shape, (h.at_.same s1).it, SR_len h.roots hk, hi, fun H2 t s2 ht => q _ t (s1.trans s2) ht⟩
/-! ### way_of, way_to_unit -/
def spWayOf (K : PySem.W.Frag) : Sp := fun vs H Q _ => ∃ (a v : Addr) (M : Mat) (u : Vec) (RD : List (Vec × Nat)) (x : Vec) (k : Nat), vs = [.ref a, .ref v] ∧ Arr K H a v M u RD x ∧ (x, k) ∈ SR RD ∧ ∀ H' t r (j : Int), Same H H' → H' t = some (.tup [.ref r, .int j]) → IT H' r (way M (SR RD) k x) → Q (.ref t) H'
abbrev n_way_of : List Str := ["hall", "arrow", "up", "now", "way", "lamp"]
theorem sc_way_of : FnScope n_way_of ["hall", "arrow"] (defScope s_way_of) := ⟨rfl, rfl, rfl, by decide +kernel, rfl, by decide +kernel, by decide +kernel⟩
theorem one_in {n i : Nat} (hi : i < n) : (1 : Int) ∈ unit n i ∧ (unit n i).idxOf 1 = i := by
  obtain ⟨h1, h2⟩ := unit_index hi
  refine ⟨List.mem_of_getElem? h1, ?_⟩
  have hm := List.mem_of_getElem? h1
  have hlt := List.idxOf_lt_length_of_mem hm
  have hat : (unit n i)[(unit n i).idxOf 1]? = some 1 := by
    rw [List.getElem?_eq_getElem hlt]
    exact congrArg some (List.getElem_idxOf hlt)
  rw [unit_length] at hlt
  rcases Nat.lt_trichotomy ((unit n i).idxOf 1) i with h | h | h
  · have := h2 _ h
    rw [hat] at this
    cases this
  · exact h
  · have e : (unit n i)[(unit n i).idxOf 1]? = some (if (unit n i).idxOf 1 = i then 1 else 0) := by
      have hlt2 := hlt
      show ((List.range n).map fun j => if j = i then (1 : Int) else 0)[(unit n i).idxOf 1]? = _
      rw [List.getElem?_map, List.getElem?_range hlt2]
      rfl
    rw [if_neg (by omega), hat] at e
    cases e
theorem ok_way_of (E : Ev K mg) (D : Dd K mg "way_of" s_way_of) (C1 : Ca P w K mg base 1 "turned_up" ["arrow"] (spTUp K)) (C2 : Ca P w K mg base 4 "all_up" ["hall"] (spAllUp P w K)) (C3 : Ca P w K mg base 1 "turned" ["hall", "arrow", "lamp"] (spTurned K)) : Ca P w K mg base 5 "way_of" ["hall", "arrow"] (spWayOf K) := by
  refine mk_ca (k := 4) D sc_way_of (fun vs H Q E h => ?_) (fun _ _ _ _ _ _ us hl => match us, hl with | [_, _], _ => rfl) (fun f cd A outer s H vs Q E' hr h => ?_)
  · obtain ⟨a, v, M, u, RD, x, k, rfl, _⟩ := h
    rfl
  obtain ⟨a, v, M, u, RD, x, k, rfl, h, hk, q⟩ := h
  have hxl := SR_len h.roots hk
  have hn8 := h.shape.le
  have hu := hu_of hr
  have S := h.shape
  have R := h.roots
  obtain ⟨j, i0, hj, hi0, hal, hway⟩ := R.way_answer S hk
  refine ⟨_, pss_cons (ps_par (i := 2) (j := 3) rfl sc_way_of.nd rfl rfl (by decide) rfl rfl (pa_cons (pe_ca (C1.mono (by decide)) hr (by rfl) (pa_cons (pv 1) pa_nil)) (pa_cons (pe_ca (C1.mono (by decide)) hr (by rfl) (pa_cons (pv 1) pa_nil)) pa_nil)) (by rfl))
    (pss_cons (ps_set (i := 4) sc_way_of.nd rfl (.inl rfl) (pe_xget hu (pe_ca C2 hr (by rfl) (pa_cons (pv 0) pa_nil)) (pv 2) (fun _ _ => rfl)))
    (pss_cons (ps_forW rfl (pi_tup (pv 4)) (pg_name (i := 5) sc_way_of.nd rfl (.inl rfl)) (pss_one (ps_set (i := 3) sc_way_of.nd rfl (.inl rfl) (pe_ca (C3.mono (by decide)) hr (by rfl) (pa_cons (pv 0) (pa_cons (pv 3) (pa_cons (pv 5) pa_nil)))))))
    (pss_one (ps_ret (pe_tup (pa_cons (pe_ifExp (pt_cmpR (op_eqI .tu hr.units) (pv 2) (pv 1) (nomark _)) (pv 4) (pe_tup (StX.pa_star (pv 4) (pa_cons (pe_idx (pv 3) pe_int) pa_nil)))) (pa_cons (pe_idx (pv 3) pe_int) pa_nil))))))), ?_⟩
  refine ⟨.ref v, rfl, v, x, rfl, h.at_, by omega, fun H1 t1 s1 h1 => ⟨.ref v, rfl, v, x, rfl, h.at_.same s1, by omega, fun H2 t2 s2 h2 => ⟨_, _, rfl, ?_⟩⟩⟩
  have s12 := s1.trans s2
  refine ⟨.ref a, rfl, a, M, RD, rfl, h.hall.same s12, S, R, fun H3 d m s3 hd hm => ?_⟩
  have s123 := s12.trans s3
  have hlook := mem_look hm.1 ((hm.2 (upOf x) _).mpr ⟨j, hj, rfl⟩)
  refine ⟨.ref t1, rfl, d, t1, m, upOf x, _, rfl, rfl, hd, ((h1.same s2).same s3).it, hlook, fun r hr0 => ?_⟩
  obtain ⟨wv, hwv⟩ : ∃ wv, wv = way M RD j (upOf x) := ⟨_, rfl⟩
  rw [← hwv] at hr0 hal hway
  have hwl : wv.length ≤ 1000 := by
    rw [hwv]
    exact Nat.le_trans (way_len M RD j _) (Nat.le_trans (depth_le (R.grade_up S) hj) R.bnd)
  -- for lamp in way
  refine ⟨.ref r, rfl, r, rfl, ⟨_, hr0.sq⟩, for_walk (walk_tup (xs := wv.map V.int)) (fun i σ H' => ∃ nw y5, σ = [some (.ref a), some (.ref v), some (.ref t1), some (.ref nw), some (.ref r), y5] ∧ Same H3 H' ∧ PT H' nw (along M (upOf x) (wv.take i)))
    ⟨t2, none, rfl, Same.refl _, h2.same s3⟩ (fun i σ H' _ p => ?_) (fun i y σ H4 H5 hi p hy => ?_) (fun σ H4 p => ?_)⟩
  · obtain ⟨_, _, _, s4, _⟩ := p
    exact (hr0.same s4).sq
  · obtain ⟨nw, y5, rfl, s4, p4⟩ := p
    obtain ⟨rfl, hv⟩ := hy
    obtain ⟨z, rfl, hz⟩ := get_int hv
    obtain ⟨l, rfl, hl⟩ := way_mem M RD j (upOf x) z (by rw [← hwv]; exact List.mem_of_getElem? hz)
    refine ⟨.ref a, rfl, .ref nw, rfl, .int (l : Nat), rfl, a, nw, M, _, l, rfl, h.hall.same (s123.trans s4), S, p4.it, by rw [along_len, upOf_len, hxl], hl, fun H6 t s6 ht => ⟨_, _, rfl, s4.trans s6, ?_⟩⟩
    rw [along_succ _ _ _ hz, Int.toNat_natCast]
    exact ht
  · obtain ⟨nw, y5, rfl, s4, p4⟩ := p
    have etk : wv.take (wv.map V.int).length = wv := List.take_of_length_le (by simp)
    rw [etk, hal] at p4
    obtain ⟨hin, hix⟩ := one_in hi0
    have hr4 := hr0.same s4
    refine ⟨.ref t1, rfl, .ref v, rfl, t1, v, upOf x, x, rfl, rfl, ((h1.same s2).same (s3.trans s4)).it.sq, (h.at_.same (s123.trans s4)).it.sq, _, rfl, ?_⟩
    by_cases hup : upOf x = x
    · rw [if_pos hup] at hway
      show if decide (upOf x = x) = true then _ else _
      rw [decide_eq_true hup]
      refine iteT ⟨.ref r, rfl, .ref nw, rfl, nw, _, rfl, p4, 1, rfl, p4, hin, by show 2 ≤ sizeLine; decide, fun t nt => ?_⟩
      exact q _ t r _ ((s123.trans s4).trans (same_upd nt)) upd_same (by rw [hway]; exact hr4.same (same_upd nt))
    · rw [if_neg hup] at hway
      show if decide (upOf x = x) = true then _ else _
      rw [decide_eq_false hup]
      refine iteF ⟨.ref r, rfl, r, _, rfl, .inl hr4.sq, .ref nw, rfl, nw, _, rfl, p4, 1, rfl, p4, hin, ?_⟩
      rw [hix]
      have ew : wv.map V.int ++ [V.int (i0 : Nat)] = (way M (SR RD) k x).map V.int := by rw [hway]; simp
      show (wv.map V.int ++ [V.int (i0 : Nat)]).length ≤ sizeLine ∧ _
      refine ⟨by simp; exact Nat.le_of_lt (Nat.lt_of_le_of_lt (Nat.succ_le_succ hwl) (by decide)), fun t nt => ?_⟩
      rw [ew]
      have sT : Same H4 (upd H4 t (.tup ((way M (SR RD) k x).map V.int))) := same_upd nt
      refine ⟨.ref nw, rfl, nw, _, rfl, p4.same sT, 1, rfl, p4.same sT, hin, by show 2 ≤ sizeLine; decide, fun t3 nt3 => ?_⟩
      exact q _ t3 t _ ((s123.trans s4).trans (sT.trans (same_upd nt3))) upd_same (.inl ((same_upd nt3) _ _ upd_same))
def spWay (K : PySem.W.Frag) : Sp := fun vs H Q _ => ∃ (a v : Addr) (M : Mat) (u : Vec) (RD : List (Vec × Nat)) (x : Vec) (k : Nat), vs = [.ref a, .ref v] ∧ Arr K H a v M u RD x ∧ (x, k) ∈ SR RD ∧ ∀ H' r, Same H H' → IT H' r (way M (SR RD) k x) → Q (.ref r) H'
theorem sc_way : FnScope ["hall", "arrow"] ["hall", "arrow"] (defScope s_way_to_unit) := ⟨rfl, rfl, rfl, by decide +kernel, rfl, by decide +kernel, by decide +kernel⟩
theorem ok_way (E : Ev K mg) (D : Dd K mg "way_to_unit" s_way_to_unit) (C1 : Ca P w K mg base 6 "need_arrow" ["hall", "arrow"] (spNeedArrow K)) (C2 : Ca P w K mg base 5 "way_of" ["hall", "arrow"] (spWayOf K)) : Ca P w K mg base 7 "way_to_unit" ["hall", "arrow"] (spWay K) := by
  refine mk_ca (k := 6) D sc_way (fun vs H Q E h => ?_) (fun _ _ _ _ _ _ us hl => match us, hl with | [_, _], _ => rfl) (fun f cd A outer s H vs Q E' hr h => ?_)
  · obtain ⟨a, v, M, u, RD, x, k, rfl, _⟩ := h
    rfl
  obtain ⟨a, v, M, u, RD, x, k, rfl, h, hk, q⟩ := h
  refine ⟨_, pss_cons (ps_expr (pe_ca C1 hr (by rfl) (pa_cons (pv 0) (pa_cons (pv 1) pa_nil))))
    (pss_one (ps_ret (pe_ix ix_tup (pe_ca (C2.mono (by decide)) hr (by rfl) (pa_cons (pv 0) (pa_cons (pv 1) pa_nil))) pe_int (fun _ _ => rfl)))), ?_⟩
  refine ⟨.ref a, rfl, .ref v, rfl, a, v, M, u, RD, x, rfl, h, fun H1 s1 => ⟨.ref a, rfl, .ref v, rfl, a, v, M, u, RD, x, k, rfl, h.same s1, hk, fun H2 t r j s2 ht hr0 => ?_⟩⟩
  exact ⟨t, _, _, _, rfl, rfl, .inl (.inl ht), atI_nat (j := 0) rfl, q _ r (s1.trans s2) hr0⟩
end
end K31

set_option Elab.async false
set_option linter.all false
set_option maxRecDepth 100000
set_option maxHeartbeats 4000000
namespace K31
open PySem PySem.Spec PyProof.Rows L2
/-! ### the walk, 13: shows_way -/
/-- is_from(x, 0, n - 1) -/
def okB (n : Nat) : V → Bool
  | .int z => decide (0 ≤ z) && decide (z ≤ (n : Int) - 1)
  | _ => false
def Oddy (K : PySem.W.Frag) (H : Hp) (v : V) : Prop := (∃ z : Int, v = .int z) ∨ NotInt K H v
theorem Oddy.same {K : PySem.W.Frag} {H H' : Hp} (s : Same H H') {v : V} (h : Oddy K H v) : Oddy K H' v := h.elim .inl fun z => .inr (NotInt.same s z)
theorem notint_not {K : PySem.W.Frag} {H : Hp} {n : Nat} {v : V} (h : NotInt K H v) : okB n v = false := by
  rcases h with ⟨b, rfl⟩ | ⟨T, ht, hk⟩
  · rfl
  · cases v with
    | int z =>
      cases ht with
      | base b => cases b; exact absurd hk (by decide +kernel)
    | _ => rfl
/-- the third argument: a sequence, or no tuple at all -/
def Third (K : PySem.W.Frag) (H : Hp) (n : Nat) (val : V) (r : Option (List Int)) : Prop :=
  (∃ (p : Addr) (ws : List Int), val = .ref p ∧ IT H p ws ∧ (∀ z ∈ ws, 0 ≤ z ∧ z < n) ∧ ws.length ≤ 10000 ∧ r = some ws) ∨ (∃ T, TyX K H val (.type T) ∧ kitB T "tuple" = some false ∧ r = none) ∨
    ∃ (p : Addr) (xs : List V), val = .ref p ∧ Rd H p (.tup xs) ∧ xs.length ≤ 10000 ∧ (∀ x ∈ xs, Oddy K H x) ∧ (∃ x ∈ xs, okB n x = false) ∧ r = none
section
variable {P : Program} {w : World} {K : PySem.W.Frag} {mg : Str → Option Value} {base : Heap}
def spShows (K : PySem.W.Frag) : Sp := fun vs H Q _ => ∃ (a v : Addr) (val : V) (M : Mat) (u : Vec) (RD : List (Vec × Nat)) (x : Vec) (r : Option (List Int)), vs = [.ref a, .ref v, val] ∧ Arr K H a v M u RD x ∧ Third K H M.length val r ∧
  ∀ H', Same H H' → Q (.bl (match r with | some ws => decide ((along M x ws).sum = 1) | none => false)) H'
abbrev n_shows : List Str := ["hall", "arrow", "value", "lamp"]
theorem sc_shows : FnScope n_shows ["hall", "arrow", "value"] (defScope s_shows_way) := ⟨rfl, rfl, rfl, by decide +kernel, rfl, by decide +kernel, by decide +kernel⟩
theorem ok_shows (E : Ev K mg) (D : Dd K mg "shows_way" s_shows_way) (L : CaLen P w K mg base) (C0 : Ca P w K mg base 6 "need_arrow" ["hall", "arrow"] (spNeedArrow K)) (C1 : Ca P w K mg base 1 "is_from" ["value", "low", "high"] (spIsFrom K)) (C2 : Ca P w K mg base 1 "turned" ["hall", "arrow", "lamp"] (spTurned K)) : Ca P w K mg base 7 "shows_way" ["hall", "arrow", "value"] (spShows K) := by
  refine mk_ca (k := 6) D sc_shows (fun vs H Q E h => ?_) (fun _ _ _ _ _ _ us hl => match us, hl with | [_, _, _], _ => rfl) (fun f cd A outer s H vs Q E' hr h => ?_)
  · obtain ⟨a, v, val, M, u, RD, x, r, rfl, _⟩ := h
    rfl
  obtain ⟨a, v, val, M, u, RD, x, r, rfl, h, h3, q⟩ := h
  obtain ⟨k0, hk0⟩ := h.mem
  have hxl := SR_len h.roots hk0
  have S := h.shape
  have hn8 := S.le
  have hn1 := S.pos
  have hr2 : Room 2 _ := hr.mono (by decide)
  refine ⟨_, pss_cons (ps_expr (pe_ca C0 hr (by rfl) (pa_cons (pv 0) (pa_cons (pv 1) pa_nil))))
    (pss_cons (ps_if (pw_or (pt_not (pt_val (pe_isi E.isi E.tup boot_tuple (pv 2) (by rfl) (by rfl))))
      (pw_or1 (pt_not (pt_val (pe_callB (cr_all rfl) (by rfl) E.all (by decide +kernel) (pa_cons (pe_lcW (own := [("lamp", 3)]) (g := gName 3)
        (te := tCall (spIsFrom K) [] E0 (tCons (tVar 3) (tCons (tC (.int 0)) (tCons (tOp (rI0 fun i j => .int (i - j)) (tCB (rHLen K) (tCons (tVar 0) tNil)) (tC (.int 1))) tNil)))) rfl sc_shows.nd (pi_tup (pv 2))
        (blkOk_by (N := n_shows) (sc := defScope s_shows_way) (by decide +kernel)) (fun _ _ _ _ _ => pg_name (i := 3) sc_shows.nd rfl (.inl rfl))
        (fun _ _ _ _ _ => pe_ca (C1.mono (by decide)) hr (by rfl) (pa_cons (pv 3) (pa_cons pe_int (pa_cons (pe_op op_sub (pe_callB (call_hlen L E.hlen hr2) (by rfl) E.len PySem.boot_len (pa_cons (pv 0) pa_nil)) pe_int) pa_nil))))) pa_nil)))))).pt (pss_one (ps_ret pe_bl)) pss_nil)
    (pss_cons (ps_forW rfl (pi_tup (pv 2)) (pg_name (i := 3) sc_shows.nd rfl (.inl rfl)) (pss_one (ps_set (i := 1) sc_shows.nd rfl (.inl rfl) (pe_ca (C2.mono (by decide)) hr (by rfl) (pa_cons (pv 0) (pa_cons (pv 1) (pa_cons (pv 3) pa_nil)))))))
    (pss_one (ps_ret (pe_cmpR op_eq (pe_callB (cr_sumT rfl) (by rfl) E.sum boot_sum (pa_cons (pv 1) pa_nil)) pe_int (nomark _)))))), ?_⟩
  refine ⟨.ref a, rfl, .ref v, rfl, a, v, M, u, RD, x, rfl, h, fun H1 s1 => ?_⟩
  -- the comprehension over a tuple
  have key : ∀ (p : Addr) (xs : List V), SqT K H1 p xs → xs.length ≤ 10000 → (∀ x ∈ xs, Oddy K H1 x) → ∀ Q2 : VK, (∀ D H2, Same H1 H2 → H2 D = some (.lst ((xs.map (okB M.length)).map V.bl)) → Q2 (.ref D) H2) →
      LcB (Itt K p) (gName 3) (tCall (spIsFrom K) [] E0 (tCons (tVar 3) (tCons (tC (.int 0)) (tCons (tOp (rI0 fun i j => .int (i - j)) (tCB (rHLen K) (tCons (tVar 0) tNil)) (tC (.int 1))) tNil)))) [3] (start n_shows [.ref a, .ref v, val]) H1 Q2 := by
    intro p xs hp hl hodd Q2 hQ2
    refine lc_walk walk_tup (Nat.lt_of_le_of_lt hl (by decide)) (fun H' s => sqT_same s hp) (fun D j y H => ∃ x, xs[j]? = some x ∧ y = .bl (okB M.length x)) (fun D j y H H' h _ => h) (fun D j y H2 H3 Kc hj s2 hD hy kc => ?_) (fun D H2 ys nD s2 e2 l2 r2 => ?_)
    · obtain ⟨rfl, hx⟩ := hy
      refine ⟨rfl, y, rfl, .ref a, rfl, a, M, rfl, h.hall.same (s1.trans s2), S, (M.length : Nat), 1, rfl, rfl, y, 0, (M.length : Nat) - 1, rfl, ?_⟩
      rcases (hodd y (List.mem_of_getElem? hx)).same s2 with ⟨z, rfl⟩ | hni
      · exact .inl ⟨z, rfl, kc _ _ (Same.refl _) ⟨_, hx, rfl⟩⟩
      · exact .inr ⟨hni, kc _ _ (Same.refl _) ⟨_, hx, by rw [notint_not hni]⟩⟩
    · have ey : ys = (xs.map (okB M.length)).map V.bl := by
        apply List.ext_getElem?
        intro j
        rw [List.getElem?_map, List.getElem?_map]
        rcases Nat.lt_or_ge j ys.length with hj | hj
        · obtain ⟨z, hz, e⟩ := r2 j _ (List.getElem?_eq_getElem hj)
          rw [List.getElem?_eq_getElem hj, e, hz]
          rfl
        · rw [List.getElem?_eq_none hj, List.getElem?_eq_none (by omega)]
          rfl
      subst ey
      exact hQ2 D H2 s2 e2
  rcases h3 with ⟨p, ws, rfl, hp, hw, hwl, rfl⟩ | ⟨T, hT, hk, rfl⟩ | ⟨p, xs, rfl, hp, hxl2, hodd, ⟨x0, hx0, hno⟩, rfl⟩
  · have hp1 := hp.same s1
    refine ⟨.ref p, rfl, .ref p, "tuple", "tuple", true, rfl, hp1.ty, by decide +kernel, true, rfl, iteF ?_⟩
    refine ⟨.ref p, rfl, p, rfl, ⟨_, hp1.sq⟩, key p _ hp1.sq (by rw [List.length_map]; exact hwl) (fun x hx => by
      obtain ⟨z, _, rfl⟩ := List.mem_map.mp hx
      exact .inl ⟨z, rfl⟩) _ fun D H2 s2 e2 => ?_⟩
    have hall : (((ws.map V.int).map (okB M.length)).all id) = true := by
      rw [List.all_eq_true]
      intro b hb
      obtain ⟨y, hy, rfl⟩ := List.mem_map.mp hb
      obtain ⟨z, hz, rfl⟩ := List.mem_map.mp hy
      have hz2 := hw z hz
      show (decide (0 ≤ z) && decide (z ≤ (M.length : Int) - 1)) = true
      rw [decide_eq_true hz2.1, decide_eq_true (by omega)]
      rfl
    refine ⟨D, _, rfl, .inl (.inl e2), true, by rw [hall], iteF ?_⟩
    have s12 := s1.trans s2
    -- for lamp in value
    refine ⟨.ref p, rfl, p, rfl, ⟨_, (hp1.same s2).sq⟩, for_walk (walk_tup (xs := ws.map V.int)) (fun i σ H' => ∃ nw y3, σ = [some (.ref a), some (.ref nw), some (.ref p), y3] ∧ Same H2 H' ∧ PT H' nw (along M x (ws.take i)))
      ⟨v, none, rfl, Same.refl _, h.at_.same s12⟩ (fun i σ H' _ g => ?_) (fun i y σ H4 H5 hi g hy => ?_) (fun σ H4 g => ?_)⟩
    · obtain ⟨_, _, _, s4, _⟩ := g
      exact ((hp1.same s2).same s4).sq
    · obtain ⟨nw, y3, rfl, s4, p4⟩ := g
      obtain ⟨rfl, hv⟩ := hy
      obtain ⟨z, rfl, hz⟩ := get_int hv
      have hz2 := hw z (List.mem_of_getElem? hz)
      obtain ⟨l, rfl⟩ : ∃ l : Nat, z = (l : Int) := ⟨z.toNat, by omega⟩
      refine ⟨.ref a, rfl, .ref nw, rfl, .int (l : Nat), rfl, a, nw, M, _, l, rfl, h.hall.same (s12.trans s4), S, p4.it, by rw [along_len, hxl], by omega, fun H6 t s6 ht => ⟨_, _, rfl, s4.trans s6, ?_⟩⟩
      rw [along_succ _ _ _ hz, Int.toNat_natCast]
      exact ht
    · obtain ⟨nw, y3, rfl, s4, p4⟩ := g
      have etk : ws.take (ws.map V.int).length = ws := List.take_of_length_le (by simp)
      rw [etk] at p4
      refine ⟨.ref nw, rfl, nw, _, rfl, p4.it.sq, rfl, ?_⟩
      have e : decide (V.int (along M x ws).sum = V.int 1) = decide ((along M x ws).sum = 1) := by
        rw [decide_eq_decide]
        exact ⟨fun z => V.int.inj z, fun z => by rw [z]⟩
      show Q (.bl (decide (V.int (along M x ws).sum = V.int 1))) H4
      rw [e]
      exact q _ (s12.trans s4)
  · exact ⟨val, rfl, val, T, "tuple", false, rfl, TyX.same s1 hT, hk, false, rfl, iteT (iteT (q _ s1))⟩
  · have hp1 : Rd H1 p (.tup xs) := hp.elim (fun z => .inl (s1 _ _ z)) fun ⟨o, z⟩ => .inr ⟨o, s1 _ _ z⟩
    have hty : TyX K H1 (.ref p) (.type "tuple") := by
      rcases hp1 with h | ⟨o, h⟩
      · exact .base (.tup h)
      · exact .fTuple h
    refine ⟨.ref p, rfl, .ref p, "tuple", "tuple", true, rfl, hty, by decide +kernel, true, rfl, iteF ?_⟩
    refine ⟨.ref p, rfl, p, rfl, ⟨_, .inl hp1⟩, key p _ (.inl hp1) hxl2 (fun x hx => (hodd x hx).same s1) _ fun D H2 s2 e2 => ?_⟩
    have hall : ((xs.map (okB M.length)).all id) = false := by
      rw [List.all_eq_false]
      exact ⟨false, List.mem_map.mpr ⟨x0, hx0, hno⟩, by decide⟩
    refine ⟨D, _, rfl, .inl (.inl e2), false, by rw [hall], iteT (q _ (s1.trans s2))⟩
end
end K31

set_option Elab.async false
set_option linter.all false
set_option maxRecDepth 100000
set_option maxHeartbeats 4000000
namespace K31
open PySem PySem.Spec PyProof.Rows L2
/-! ### the walk, 14: what the law draws -/
/-- the row: script, place, seed, rest -/
def RowAt (K : PySem.W.Frag) (H : Hp) (r : Addr) : Prop := ∃ (sc : Addr) (i sd c : Int) (ns : List Int), H r = some (.lst [.ref sc, .int i, .int sd, .int c]) ∧ SqL K H sc (ns.map V.int) ∧ 0 ≤ i ∧ 0 ≤ sd ∧ sd < 2147483647 ∧ 0 ≤ c
theorem RowAt.same {K : PySem.W.Frag} {H H' : Hp} (s : Same H H') {r : Addr} (h : RowAt K H r) : RowAt K H' r := by
  obtain ⟨sc, i, sd, c, ns, e, hs, h1⟩ := h
  exact ⟨sc, i, sd, c, ns, s _ _ e, s.seq hs, h1⟩
theorem RowAt.some {K : PySem.W.Frag} {H : Hp} {r : Addr} (h : RowAt K H r) : ∃ xs, H r = some (.lst xs) ∧ ∃ sc l, xs = V.ref sc :: l := by
  obtain ⟨sc, i, sd, c, ns, e, _⟩ := h
  exact ⟨_, e, sc, _, rfl⟩
/-- the script stands while the row is written -/
theorem seq_sb {K : PySem.W.Frag} {H H' : Hp} {r sc : Addr} {ns : List Int} {x : Addr} {l : List V} (e : H r = some (.lst (.ref x :: l))) (hs : SqL K H sc (ns.map V.int)) (sb : SB r H H') : SqL K H' sc (ns.map V.int) := by
  rcases hs with (h | ⟨o, h⟩) | h
  · refine .inl (.inl (sb _ _ (fun z => ?_) h))
    rw [z, e] at h
    have h2 := HO.lst.inj (Option.some.inj h)
    cases ns with
    | nil => cases h2
    | cons n r => cases h2
  · refine .inl (.inr ⟨o, sb _ _ (fun z => ?_) h⟩)
    rw [z, e] at h
    cases h
  · exact .inr h
theorem row_upd {K : PySem.W.Frag} {H : Hp} {r sc : Addr} {ns : List Int} {x : Addr} {l : List V} (e : H r = some (.lst (.ref x :: l))) (hs : SqL K H sc (ns.map V.int)) {i sd c : Int} (h : 0 ≤ i ∧ 0 ≤ sd ∧ sd < 2147483647 ∧ 0 ≤ c) : RowAt K (upd H r (.lst [.ref sc, .int i, .int sd, .int c])) r :=
  ⟨sc, i, sd, c, ns, upd_same, seq_sb e hs sb_upd, h⟩
section
variable {P : Program} {w : World} {K : PySem.W.Frag} {mg : Str → Option Value} {base : Heap}
def spTaken (K : PySem.W.Frag) : Sp := fun vs H Q _ => ∃ (r : Addr) (n : Nat), vs = [.ref r, .int n] ∧ RowAt K H r ∧ 1 ≤ n ∧ n < 1000000 ∧ ∀ (t : Nat) H', SB r H H' → RowAt K H' r → t < n → Q (.int (t : Nat)) H'
abbrev n_taken : List Str := ["_law_row", "_law_many", "_law_found", "_law_cell"]
theorem sc_taken : FnScope n_taken ["_law_row", "_law_many"] (defScope s_law_taken) := ⟨rfl, rfl, rfl, by decide +kernel, rfl, by decide +kernel, by decide +kernel⟩
theorem mod_nat {z : Int} {n : Nat} (hn : 1 ≤ n) : ∃ t : Nat, z % (n : Int) = (t : Nat) ∧ t < n := by
  have h1 := Int.emod_nonneg z (show (n : Int) ≠ 0 by omega)
  have h2 := Int.emod_lt_of_pos z (show (0 : Int) < n by omega)
  exact ⟨(z % n).toNat, by omega, by omega⟩
theorem ok_taken (E : Ev K mg) (D : Dd K mg "_law_taken" s_law_taken) : Ca P w K mg base 1 "_law_taken" ["_law_row", "_law_many"] (spTaken K) := by
  refine mk_ca (k := 0) D sc_taken (fun vs H Q E h => ?_) (fun _ _ _ _ _ _ us hl => match us, hl with | [_, _], _ => rfl) (fun f cd A outer s H vs Q E' hr h => ?_)
  · obtain ⟨r, n, rfl, _⟩ := h
    rfl
  obtain ⟨r, n, rfl, ⟨sc, i, sd, c, ns, er, hs, hi, hsd, hsd2, hc⟩, hn, hn2, q⟩ := h
  have nd := sc_taken.nd
  refine ⟨_, pss_cons (ps_if (pt_cmpR op_gt (pe_ix ix_list (pv 0) pe_int (fun _ _ => rfl)) pe_int (nomark _))
      (pss_cons (ps_set (i := 2) nd rfl (.inl rfl) (pe_op op_mod (pe_callTy call_int1 (by rfl) E.int boot_int (pa_cons (pe_ix ix_list (pv 0) pe_int (fun _ _ => rfl)) pa_nil)) (pv 1)))
      (pss_cons (ps_asg (pe_op op_fdiv (pe_ix ix_list (pv 0) pe_int (fun _ _ => rfl)) (pv 1)) (pg_sub (pv 0) pe_int set_list))
      (pss_one (ps_ret (pv 2))))) pss_nil)
    (pss_cons (ps_asg (pe_op op_add (pe_ix ix_list (pv 0) pe_int (fun _ _ => rfl)) pe_int) (pg_sub (pv 0) pe_int set_list))
    (pss_cons (ps_if (pt_cmpR op_gt (pe_ix ix_list (pv 0) pe_int (fun _ _ => rfl)) (pe_callB call_len_seq (by rfl) E.len PySem.boot_len (pa_cons (pe_ix ix_list (pv 0) pe_int (fun _ _ => rfl)) pa_nil)) (nomark _))
      (pss_cons (ps_asg (pe_op op_mod (pe_callTy call_int1 (by rfl) E.int boot_int (pa_cons (pe_op op_add (pe_op op_mul (pe_ix ix_list (pv 0) pe_int (fun _ _ => rfl)) pe_int) pe_int) pa_nil)) pe_int) (pg_sub (pv 0) pe_int set_list))
      (pss_one (ps_ret (pe_op op_mod (pe_callTy call_int1 (by rfl) E.int boot_int (pa_cons (pe_op op_fdiv (pe_ix ix_list (pv 0) pe_int (fun _ _ => rfl)) pe_int) pa_nil)) (pv 1))))) pss_nil)
    (pss_cons (ps_set (i := 3) nd rfl (.inl rfl) (pe_ix ix_list (pe_ix ix_list (pv 0) pe_int (fun _ _ => rfl)) (pe_op op_sub (pe_ix ix_list (pv 0) pe_int (fun _ _ => rfl)) pe_int) (fun _ _ => rfl)))
    (pss_cons (ps_asg (pe_op op_mod (pe_callTy call_int1 (by rfl) E.int boot_int (pa_cons (pe_op op_add (pe_op op_add (pe_op op_mul (pe_ix ix_list (pv 0) pe_int (fun _ _ => rfl)) pe_int) (pv 3)) pe_int) pa_nil)) pe_int) (pg_sub (pv 0) pe_int set_list))
    (pss_cons (ps_if (pt_cmpR op_ge (pv 3) (pe_op op_pow pe_int pe_int) (nomark _)) (pss_one (ps_asg (pe_op op_fdiv (pv 3) (pv 1)) (pg_sub (pv 0) pe_int set_list))) pss_nil)
    (pss_one (ps_ret (pe_op op_mod (pe_callTy call_int1 (by rfl) E.int boot_int (pa_cons (pv 3) pa_nil)) (pv 1))))))))), ?_⟩
  have hn0 : (0 : Int) < (n : Int) := by omega
  refine ⟨.ref r, rfl, r, _, _, _, rfl, rfl, .inl (.inl er), atI_nat (j := 3) rfl, c, 0, rfl, rfl, _, rfl, ?_⟩
  by_cases hc0 : 0 < c
  · rw [decide_eq_true hc0]
    refine iteT ⟨.ref r, rfl, r, _, _, _, rfl, rfl, .inl (.inl er), atI_nat (j := 3) rfl, .inl ⟨c, rfl, .int (n : Nat), rfl, c, (n : Nat), rfl, rfl, hn0, ?_⟩⟩
    obtain ⟨t, et, ht⟩ := mod_nat (z := c) hn
    refine ⟨.ref r, rfl, r, _, _, _, rfl, rfl, .inl (.inl er), atI_nat (j := 3) rfl, .int (n : Nat), rfl, c, (n : Nat), rfl, rfl, ⟨hn0, by omega⟩, .ref r, rfl, r, _, _, 3, rfl, rfl, er, rfl, ?_⟩
    refine ⟨_, rfl, ?_⟩
    show Q (.int (c % (n : Nat))) _
    rw [et]
    exact q t _ sb_upd (row_upd er hs ⟨hi, hsd, hsd2, Int.ediv_nonneg hc (by omega)⟩) ht
  · rw [decide_eq_false hc0]
    refine iteF ⟨.ref r, rfl, r, _, _, _, rfl, rfl, .inl (.inl er), atI_nat (j := 1) rfl, i, 1, rfl, rfl, .ref r, rfl, r, _, _, 1, rfl, rfl, er, rfl, ?_⟩
    obtain ⟨H1, hH1⟩ : ∃ H1, H1 = upd H r (.lst [.ref sc, .int (i + 1), .int sd, .int c]) := ⟨_, rfl⟩
    show tSeq _ _ _ _ (upd H r (.lst [.ref sc, .int (i + 1), .int sd, .int c]))
    rw [← hH1]
    have er1 : H1 r = some (.lst [.ref sc, .int (i + 1), .int sd, .int c]) := by rw [hH1]; exact upd_same
    have sb1 : SB r H H1 := by rw [hH1]; exact sb_upd
    have hs1 : SqL K H1 sc (ns.map V.int) := seq_sb er hs sb1
    refine ⟨.ref r, rfl, r, _, _, _, rfl, rfl, .inl (.inl er1), atI_nat (j := 1) rfl, .ref r, rfl, r, _, _, _, rfl, rfl, .inl (.inl er1), atI_nat (j := 0) rfl, sc, _, rfl, .inl hs1, _, _, rfl, rfl, _, rfl, ?_⟩
    by_cases hend : ((ns.map V.int).length : Int) < i + 1
    · rw [decide_eq_true hend]
      refine iteT ⟨.ref r, rfl, r, _, _, _, rfl, rfl, .inl (.inl er1), atI_nat (j := 2) rfl, sd, 48271, rfl, rfl, .inl ⟨by omega, by omega⟩, _, 11, rfl, rfl, .inl ⟨_, rfl, _, 2147483647, rfl, rfl, (by show (0 : Int) < 2147483647; decide), .ref r, rfl, r, _, _, 2, rfl, rfl, er1, rfl, ?_⟩⟩
      have hm1 := Int.emod_nonneg (sd * 48271 + 11) (show (2147483647 : Int) ≠ 0 by decide)
      have hm2 := Int.emod_lt_of_pos (sd * 48271 + 11) (show (0 : Int) < 2147483647 by decide)
      obtain ⟨t, et, ht⟩ := mod_nat (z := (sd * 48271 + 11) % 2147483647 / 7) hn
      refine ⟨.ref r, rfl, r, _, _, _, rfl, rfl, .inl (.inl upd_same), atI_nat (j := 2) rfl, _, 7, rfl, rfl, ⟨by decide, by decide⟩, .inl ⟨_, rfl, .int (n : Nat), rfl, _, (n : Nat), rfl, rfl, hn0, ?_⟩⟩
      show Q (.int ((sd * 48271 + 11) % 2147483647 / 7 % (n : Nat))) _
      rw [et]
      exact q t _ (sb1.trans sb_upd) (row_upd er1 hs1 ⟨by omega, hm1, hm2, hc⟩) ht
    · rw [decide_eq_false hend]
      obtain ⟨j, hj⟩ : ∃ j : Nat, i = (j : Int) := ⟨i.toNat, by omega⟩
      have hjl : j < ns.length := by rw [List.length_map] at hend; omega
      have hat : atI (ns.map V.int) (i + 1 - 1) = some (.int (ns[j]'hjl)) := by
        rw [show i + 1 - 1 = (j : Int) by omega]
        exact atI_nat (int_get (List.getElem?_eq_getElem hjl))
      obtain ⟨z, hz⟩ : ∃ z, z = ns[j]'hjl := ⟨_, rfl⟩
      rw [← hz] at hat
      refine iteF ⟨.ref r, rfl, r, _, _, _, rfl, rfl, .inl (.inl er1), atI_nat (j := 0) rfl, .ref r, rfl, r, _, _, _, rfl, rfl, .inl (.inl er1), atI_nat (j := 1) rfl, i + 1, 1, rfl, rfl, sc, _, _, _, rfl, rfl, hs1, hat, ?_⟩
      refine ⟨.ref r, rfl, r, _, _, _, rfl, rfl, .inl (.inl er1), atI_nat (j := 2) rfl, sd, 48271, rfl, rfl, .inl ⟨by omega, by omega⟩, .int z, rfl, _, z, rfl, rfl, _, 11, rfl, rfl, .inl ⟨_, rfl, _, 2147483647, rfl, rfl, (by show (0 : Int) < 2147483647; decide), .ref r, rfl, r, _, _, 2, rfl, rfl, er1, rfl, ?_⟩⟩
      have hm1 := Int.emod_nonneg (sd * 48271 + z + 11) (show (2147483647 : Int) ≠ 0 by decide)
      have hm2 := Int.emod_lt_of_pos (sd * 48271 + z + 11) (show (0 : Int) < 2147483647 by decide)
      obtain ⟨t, et, ht⟩ := mod_nat (z := z) hn
      obtain ⟨H2, hH2⟩ : ∃ H2, H2 = upd H1 r (.lst [.ref sc, .int (i + 1), .int ((sd * 48271 + z + 11) % 2147483647), .int c]) := ⟨_, rfl⟩
      show tSeq _ _ _ _ (upd H1 r (.lst [.ref sc, .int (i + 1), .int ((sd * 48271 + z + 11) % 2147483647), .int c]))
      rw [← hH2]
      have er2 : H2 r = some (.lst [.ref sc, .int (i + 1), .int ((sd * 48271 + z + 11) % 2147483647), .int c]) := by rw [hH2]; exact upd_same
      have sb2 : SB r H1 H2 := by rw [hH2]; exact sb_upd
      have hs2 := seq_sb er1 hs1 sb2
      have fin : ∀ H3, SB r H H3 → RowAt K H3 r → tRet (tOp (rI (fun _ j => 0 < j) fun i j => V.int (i % j)) (tCB (fun xs H Q => (∃ i, xs = [V.int i] ∧ Q (V.int i) H) ∨ ∃ k, xs = [V.bl k] ∧ Q (V.int (if k = true then 1 else 0)) H) (tCons (tVar 3) tNil)) (tVar 1)) { nx := fun _ H' => Q .non H', rt := Q } [some (V.ref r), some (V.int (n : Nat)), none, some (V.int z)] H3 := by
        intro H3 sb3 hr3
        refine ⟨.int z, rfl, .inl ⟨z, rfl, .int (n : Nat), rfl, z, (n : Nat), rfl, rfl, hn0, ?_⟩⟩
        show Q (.int (z % (n : Nat))) H3
        rw [et]
        exact q t _ sb3 hr3 ht
      refine ⟨.int z, rfl, 10, 18, rfl, rfl, ⟨by decide, by decide, by decide⟩, z, _, rfl, rfl, _, rfl, ?_⟩
      refine ite2 (fun hbig => ?_) (fun _ => ?_)
      · have hz0 : 0 ≤ z := by
          have h18 : (10 : Int) ^ (18 : Int).toNat ≤ z := of_decide_eq_true hbig
          have : (0 : Int) ≤ (10 : Int) ^ (18 : Int).toNat := by decide
          omega
        refine ⟨.int z, rfl, .int (n : Nat), rfl, z, (n : Nat), rfl, rfl, ⟨hn0, by omega⟩, .ref r, rfl, r, _, _, 3, rfl, rfl, er2, rfl, ?_⟩
        exact fin _ ((sb1.trans sb2).trans sb_upd) (row_upd er2 hs2 ⟨by omega, hm1, hm2, Int.ediv_nonneg hz0 (by omega)⟩)
      · exact fin _ (sb1.trans sb2) ⟨sc, _, _, _, ns, er2, hs2, by omega, hm1, hm2, hc⟩
/-! ### _law_pick -/
def spPick (K : PySem.W.Frag) : Sp := fun vs H Q _ => ∃ (r l : Addr) (xs : List V), vs = [.ref r, .ref l] ∧ RowAt K H r ∧ H l = some (.lst xs) ∧ l ≠ r ∧ 1 ≤ xs.length ∧ xs.length < 1000000 ∧ ∀ (i : Nat) v H', SB r H H' → RowAt K H' r → xs[i]? = some v → Q v H'
theorem sc_pick : FnScope ["_law_row", "_law_some"] ["_law_row", "_law_some"] (defScope s_law_pick) := ⟨rfl, rfl, rfl, by decide +kernel, rfl, by decide +kernel, by decide +kernel⟩
theorem ok_pick (E : Ev K mg) (D : Dd K mg "_law_pick" s_law_pick) (C : Ca P w K mg base 1 "_law_taken" ["_law_row", "_law_many"] (spTaken K)) : Ca P w K mg base 2 "_law_pick" ["_law_row", "_law_some"] (spPick K) := by
  refine mk_ca (k := 1) D sc_pick (fun vs H Q E h => ?_) (fun _ _ _ _ _ _ us hl => match us, hl with | [_, _], _ => rfl) (fun f cd A outer s H vs Q E' hr h => ?_)
  · obtain ⟨r, l, xs, rfl, _⟩ := h
    rfl
  obtain ⟨r, l, xs, rfl, hrow, hl, hlr, h1, h2, q⟩ := h
  refine ⟨_, pss_one (ps_ret (pe_ix ix_list (pv 1) (pe_ca C hr (by rfl) (pa_cons (pv 0) (pa_cons (pe_callB call_len_seq (by rfl) E.len PySem.boot_len (pa_cons (pv 1) pa_nil)) pa_nil))) (fun _ _ => rfl))), ?_⟩
  refine ⟨.ref l, rfl, .ref r, rfl, .ref l, rfl, l, xs, rfl, .inl (.inl (.inl hl)), r, xs.length, rfl, hrow, h1, h2, fun t H1 sb hr1 ht => ?_⟩
  have e : xs[t]? = some (xs[t]'ht) := List.getElem?_eq_getElem ht
  exact ⟨l, xs, (t : Nat), _, rfl, rfl, .inl (.inl (sb _ _ hlr hl)), atI_nat e, q t _ _ sb hr1 e⟩
end
end K31

set_option Elab.async false
set_option linter.all false
set_option maxRecDepth 100000
set_option maxHeartbeats 4000000
namespace K31
open PySem PySem.Spec PyProof.Rows L2
/-! ### the walk, 15: the law's own turn -/
theorem cat2 {K : PySem.W.Frag} {σ : L2.St} {H : Hp} {b a : Addr} {x : List Int} {i : Nat} {own : Int} {Q : VK} (hb : PT H b (x.take i ++ [own])) (ha : IT H a x) (h1 : σ[1]? = some (some (.ref a))) (h2 : σ[2]? = some (some (.int (i : Nat)))) (hi : i < x.length) (hl : x.length ≤ 1000)
    (q : ∀ H' t, Same H H' → PT H' t (x.set i own) → Q (.ref t) H') : tSl (rSlA K) (tVar 1) (tPart (tOp (rI0 fun i j => .int (i + j)) (tVar 2) (tC (.int 1)))) tNoPart σ H fun y H2 => rCatP K (.ref b) y H2 Q := by
  have e0 : ((i : Int) + 1) = ((i + 1 : Nat) : Int) := by omega
  refine ⟨.ref a, h1, .int (i : Nat), h2, i, 1, rfl, rfl, (i : Int) + 1, rfl, ?_⟩
  dsimp only [tNoPart]
  refine rd_sl ha.sq (ys := (x.map V.int).drop (i + 1)) (by rw [e0]; exact cut_drop _ (i + 1)) fun p H1 s1 hp => ?_
  have hb1 := hb.same s1
  have es : x.take i ++ own :: x.drop (i + 1) = x.set i own := set_parts hi own
  refine ⟨b, p, _, _, rfl, rfl, hb1.it.sq, hp, ?_, fun z => by simp at z, fun _ hy => ?_, fun _ _ t o nt ho => ?_⟩
  · simp only [List.length_map, List.length_append, List.length_take, List.length_drop, List.length_cons, List.length_nil]
    exact Nat.le_of_lt (small1000 (by omega))
  · have hd : x.drop (i + 1) = [] := by simpa using hy
    rw [hd] at es
    rw [es] at hb1
    exact q H1 b s1 hb1
  · have e : (x.take i ++ [own]).map V.int ++ (x.map V.int).drop (i + 1) = (x.set i own).map V.int := by
      rw [← es]
      simp [List.map_drop]
    rw [e]
    exact q _ t (s1.trans (same_upd nt)) ⟨o, upd_same, ho⟩
section
variable {P : Program} {w : World} {K : PySem.W.Frag} {mg : Str → Option Value} {base : Heap}
def spLTurn (K : PySem.W.Frag) : Sp := fun vs H Q _ => ∃ (p v : Addr) (M : Mat) (x : Vec) (i : Nat), vs = [.ref p, .ref v, .int i] ∧ TT H p M ∧ Shape M ∧ IT H v x ∧ x.length = M.length ∧ i < M.length ∧ ∀ H' t, Same H H' → PT H' t (turn M x i) → Q (.ref t) H'
abbrev n_lturn : List Str := ["_law_pushes", "_law_arrow", "_law_lamp", "_law_own", "_law_other"]
theorem sc_lturn : FnScope n_lturn ["_law_pushes", "_law_arrow", "_law_lamp"] (defScope s_law_turn) := ⟨rfl, rfl, rfl, by decide +kernel, rfl, by decide +kernel, by decide +kernel⟩
theorem ok_lturn (E : Ev K mg) (D : Dd K mg "_law_turn" s_law_turn) : Ca P w K mg base 1 "_law_turn" ["_law_pushes", "_law_arrow", "_law_lamp"] (spLTurn K) := by
  refine mk_ca (k := 0) D sc_lturn (fun vs H Q E h => ?_) (fun _ _ _ _ _ _ us hl => match us, hl with | [_, _, _], _ => rfl) (fun f cd A outer s H vs Q E' hr h => ?_)
  · obtain ⟨p, v, M, x, i, rfl, _⟩ := h
    rfl
  obtain ⟨p, v, M, x, i, rfl, ⟨rs, ht, hl, h3⟩, S, hv, hxl, hi, q⟩ := h
  have hn8 := S.le
  obtain ⟨r, er, hr0⟩ := tt_at hl h3 hi
  have hrl := S.row_length hi
  refine ⟨_, pss_cons (ps_set (i := 3) sc_lturn.nd rfl (.inl rfl) (pe_op op_sub (pe_callB (cr_sum rfl) (by rfl) E.sum boot_sum (pa_cons (pe_lcW (own := [("_law_other", 4)]) (g := gName 4)
      (te := tOp (rI CMul fun i j => .int (i * j)) (tOp (rIxT K) (tOp (rIxT K) (tVar 0) (tVar 2)) (tVar 4)) (tOp (rIxT K) (tVar 1) (tVar 4))) rfl sc_lturn.nd
      (pi_range1 (by rfl) E.rng (pa_cons (pe_callB call_len_seq (by rfl) E.len PySem.boot_len (pa_cons (pv 1) pa_nil)) pa_nil)) (blkOk_by (N := n_lturn) (sc := defScope s_law_turn) (by decide +kernel)) (fun _ _ _ _ _ => pg_name (i := 4) sc_lturn.nd rfl (.inl rfl))
      (fun _ _ _ _ _ => pe_op op_mul (pe_ix ix_tup (pe_ix ix_tup (pv 0) (pv 2) (fun _ _ => rfl)) (pv 4) (fun _ _ => rfl)) (pe_ix ix_tup (pv 1) (pv 4) (fun _ _ => rfl)))) pa_nil)) (pe_ix ix_tup (pv 1) (pv 2) (fun _ _ => rfl))))
    (pss_one (ps_ret (pe_op op_catP (pe_op op_catP (pe_slice sl_tupA (pv 1) po_none (po_some (pv 2))) (pe_tupP (pa_cons (pv 3) pa_nil))) (pe_slice sl_tupA (pv 1) (po_some (pe_op op_add (pv 2) pe_int)) po_none)))), ?_⟩
  have hnl : (x.map V.int).length = M.length := by rw [List.length_map, hxl]
  refine ⟨.ref v, rfl, v, _, rfl, .inr hv.sq, ((x.map V.int).length : Nat), rfl, by omega, by omega, lc_walk walk_rng (small1000 (by omega)) (fun _ _ => trivial) (fun D j y H => ∃ z o, (rowOf M i)[j]? = some z ∧ x[j]? = some o ∧ y = .int (z * o)) (fun D j y H H' h _ => h) (fun D j y H2 H3 Kc hj s2 hD hy kc => ?_) (fun D H2 ys nD s2 e2 l2 r2 => ?_)⟩
  · obtain ⟨rfl, rfl⟩ := hy
    rw [zero_add_nat]
    have hjn : j < M.length := by omega
    have hz := row_at S hi hjn
    have ho := getD_get (by omega : j < x.length)
    have hb := S.ent _ (rowOf_mem hi) _ (List.mem_of_getElem? hz)
    exact ⟨rfl, .ref p, rfl, .int (i : Nat), rfl, p, _, _, _, rfl, rfl, .inl (.inl (s2 _ _ ht)), atI_nat er, .int (j : Nat), rfl, r, _, _, _, rfl, rfl, (hr0.same s2).sq, atI_nat (int_get hz), .ref v, rfl, .int (j : Nat), rfl, v, _, _, _, rfl, rfl, (hv.same s2).sq, atI_nat (int_get ho), _, _, rfl, rfl, .inl ⟨by omega, by omega⟩, kc _ _ (Same.refl _) ⟨_, _, hz, ho, rfl⟩⟩
  · have ey : ys = (List.zipWith (· * ·) (rowOf M i) x).map V.int := by
      apply List.ext_getElem?
      intro j
      rw [List.getElem?_map, List.getElem?_zipWith]
      rcases Nat.lt_or_ge j ys.length with hj | hj
      · obtain ⟨z, o, hz, ho, e⟩ := r2 j _ (List.getElem?_eq_getElem hj)
        rw [List.getElem?_eq_getElem hj, e, hz, ho]
        rfl
      · rw [hnl] at l2
        rw [List.getElem?_eq_none hj, List.getElem?_eq_none (by omega : (rowOf M i).length ≤ j)]
        rfl
    subst ey
    have hv2 := hv.same s2
    refine ⟨D, _, rfl, .inl (.inl e2), .ref v, rfl, .int (i : Nat), rfl, v, _, _, _, rfl, rfl, hv2.sq, atI_nat (int_get (getD_get (by omega : i < x.length))), _, _, rfl, rfl, ?_⟩
    refine ⟨.ref v, rfl, .int (i : Nat), rfl, i, rfl, rd_sl hv2.sq (cut_take _ i) fun p1 H3 s3 hp1 => ?_⟩
    refine ⟨_, rfl, by show 1 ≤ sizeLine; decide, fun tp o ntp ho => ?_⟩
    have sT : Same H3 (upd H3 tp (.frz o (.tup [V.int ((List.zipWith (· * ·) (rowOf M i) x).sum - x.getD i 0)]))) := same_upd ntp
    have hx3 := hv2.same s3
    have fin : ∀ H' t, Same H3 H' → PT H' t (x.set i ((List.zipWith (· * ·) (rowOf M i) x).sum - x.getD i 0)) → Q (.ref t) H' := fun H' t s' ht' => q H' t ((s2.trans s3).trans s') ht'
    refine ⟨p1, tp, _, _, rfl, rfl, sqT_same sT hp1, .inl (.inr ⟨o, upd_same⟩), ?_, fun hx0 => ?_, fun _ hy => absurd hy (by simp), fun _ _ t o2 nt ho2 => ?_⟩
    · rw [List.length_take, List.length_map]
      exact Nat.le_of_lt (small1000 (by simp; omega))
    · have h0 : x.take i = [] := by
        rw [← List.map_take] at hx0
        exact List.map_eq_nil_iff.mp hx0
      refine cat2 (x := x) (own := (List.zipWith (· * ·) (rowOf M i) x).sum - x.getD i 0) (a := v) ?_ (hx3.same sT) rfl rfl (by omega) (by omega) fun H' t s' ht' => fin H' t (sT.trans s') ht'
      rw [h0]
      exact ⟨o, upd_same, ho⟩
    · refine cat2 (x := x) (own := (List.zipWith (· * ·) (rowOf M i) x).sum - x.getD i 0) (a := v) ?_ ((hx3.same sT).same (same_upd nt)) rfl rfl (by omega) (by omega) fun H' t s' ht' => fin H' t ((sT.trans (same_upd nt)).trans s') ht'
      refine ⟨o2, ?_, ho2⟩
      rw [upd_same, List.map_append, List.map_take]
      rfl
end
end K31

set_option Elab.async false
set_option linter.all false
set_option maxRecDepth 100000
set_option maxHeartbeats 4000000
namespace K31
open PySem PySem.Spec PyProof.Rows L2
/-! ### the walk, 16: the law's own search -/
theorem pick_all {α : Type} {R : Nat → V → α → Prop} : ∀ {ys : List V}, (∀ j y, ys[j]? = some y → ∃ q, R j y q) → ∃ qs : List α, qs.length = ys.length ∧ ∀ j y q, ys[j]? = some y → qs[j]? = some q → R j y q
  | [], _ => ⟨[], rfl, fun j y q e => by simp at e⟩
  | y :: ys, h => by
    obtain ⟨q, hq⟩ := h 0 y rfl
    obtain ⟨qs, h1, h2⟩ := pick_all (R := fun j => R (j + 1)) (ys := ys) fun j z e => h (j + 1) z (by simpa using e)
    refine ⟨q :: qs, by simp [h1], ?_⟩
    rintro (_ | j) z p e1 e2
    · simp at e1 e2
      subst e1 e2
      exact hq
    · exact h2 j z p (by simpa using e1) (by simpa using e2)
theorem mergeM_new : ∀ (l m : Tab), (keysM (m ++ l)).Nodup → mergeM m l = m ++ l
  | [], m, _ => by simp [mergeM]
  | p :: l, m, h => by
    have hk : p.1 ∉ keysM m := fun z => by
      unfold keysM at h z
      rw [List.map_append, List.map_cons] at h
      have h2 := (List.nodup_append.mp h).2.2
      exact h2 p.1 z p.1 (List.mem_cons_self ..) rfl
    have e : m ++ p :: l = (m ++ [p]) ++ l := by simp
    show mergeM (putM m p.1 p.2) l = _
    rw [putM_new _ hk, e]
    exact mergeM_new l (m ++ [p]) (by rw [← e]; exact h)
/-- (lamp,) + found[arrow] -/
theorem way_cat {P : Program} {w : World} {K : PySem.W.Frag} {σ : L2.St} {H : Hp} {fd ab i : Nat} {found : Tab} {b wv : List Int} {Q : VK} (h8 : σ[8]? = some (some (.int (i : Nat)))) (h5 : σ[5]? = some (some (.ref fd))) (h6 : σ[6]? = some (some (.ref ab))) (hx : XT P w H fd found) (hb : IT H ab b) (hl : lookM found b = some wv) (hz : wv.length ≤ 5000)
    (q : ∀ H' t, Same H H' → IT H' t ((i : Int) :: wv) → Q (.ref t) H') : tOp (rCatP K) (tTupP (tCons (tVar 8) tNil)) (tXGet P w (tVar 5) (tVar 6)) σ H Q := by
  refine ⟨.int (i : Nat), h8, by show 1 ≤ sizeLine; decide, fun tp o ntp ho => ?_⟩
  have sT : Same H (upd H tp (.frz o (.tup [V.int (i : Nat)]))) := same_upd ntp
  refine ⟨.ref fd, h5, .ref ab, h6, fd, ab, found, b, wv, rfl, rfl, hx.same sT, hb.same sT, hl, fun v hv => ?_⟩
  refine ⟨tp, v, _, _, rfl, rfl, .inl (.inr ⟨o, upd_same⟩), hv.sq, ?_, fun z => (by simp at z), fun _ hy => ?_, fun _ _ t o2 nt ho2 => ?_⟩
  · rw [List.length_map]
    exact Nat.le_of_lt (Nat.lt_of_le_of_lt (Nat.add_le_add_left hz 1) (by decide))
  · have e : wv = [] := List.map_eq_nil_iff.mp hy
    subst e
    exact q _ tp sT (.inr ⟨o, upd_same⟩)
  · exact q _ t (sT.trans (same_upd nt)) (.inr ⟨o2, upd_same⟩)
section
variable {P : Program} {w : World} {K : PySem.W.Frag} {mg : Str → Option Value} {base : Heap}
def spLWays (P : Program) (w : World) (K : PySem.W.Frag) : Sp := fun vs H Q _ => ∃ (a : Addr) (M : Mat) (RD : List (Vec × Nat)), vs = [.ref a] ∧ TT H a M ∧ Shape M ∧ Roots M RD ∧ ∀ H' d m, Same H H' → XT P w H' d m → AllInv M (SR RD) m → Q (.ref d) H'
abbrev n_lways : List Str := ["_law_pushes", "_law_many", "_law_layer", "_law_one", "_law_other", "_law_found", "_law_arrow", "_law_later", "_law_lamp", "_law_more"]
theorem sc_lways : FnScope n_lways ["_law_pushes"] (defScope s_law_ways) := ⟨rfl, rfl, rfl, by decide +kernel, rfl, by decide +kernel, by decide +kernel⟩
theorem SR_length (RD : List (Vec × Nat)) : (SR RD).length = 2 * RD.length := by
  unfold SR
  rw [List.length_append, List.length_map]
  omega
theorem ok_lways (E : Ev K mg) (D : Dd K mg "_law_ways" s_law_ways) (C2 : Ca P w K mg base 1 "_law_turn" ["_law_pushes", "_law_arrow", "_law_lamp"] (spLTurn K)) : Ca P w K mg base 2 "_law_ways" ["_law_pushes"] (spLWays P w K) := by
  refine mk_ca (k := 1) D sc_lways (fun vs H Q E h => ?_) (fun _ _ _ _ _ _ us hl => match us, hl with | [_], _ => rfl) (fun f cd A outer s H vs Q E' hr h => ?_)
  · obtain ⟨a, M, RD, rfl, _⟩ := h
    rfl
  obtain ⟨a, M, RD, rfl, hh, S, R, q⟩ := h
  have hu := hu_of hr
  have hn8 := S.le
  have hn1 := S.pos
  have nd := sc_lways.nd
  obtain ⟨rs0, ha0, hrs0⟩ := hh.len
  have Gr := R.grade_all S
  have hSR : (SR RD).length ≤ 2000 := by rw [SR_length]; have := R.bnd; omega
  have hnf : ∀ {m : Tab} {k : Nat}, FoundInv M (SR RD) k m → m.length ≤ 2000 := fun F => Nat.le_trans (found_le F.1 fun x hx => by
    obtain ⟨j, _, h⟩ := F.key.mp hx
    exact ⟨j, h⟩) hSR
  refine ⟨_, pss_cons (ps_par (i := 1) (j := 2) rfl nd rfl rfl (by decide) rfl rfl (pa_cons (pe_callB call_len_seq (by rfl) E.len PySem.boot_len (pa_cons (pv 0) pa_nil)) (pa_cons (pe_lst pa_nil) pa_nil)) (by rfl))
    (pss_cons (ps_forW rfl (pi_range1 (by rfl) E.rng (pa_cons (pv 1) pa_nil)) (pg_name (i := 3) nd rfl (.inr rfl)) (pss_one (ps_expr (pe_bm PySem.F.plainAttrs_list PySem.F.slot_list_append PySem.F.type_list_append mt_append (pv 2)
        (pa_cons (pe_callTy call_tupleP (by rfl) E.tup boot_tuple (pa_cons (pe_lcW (own := [("_law_other", 4)]) (g := gName 4) rfl nd (pi_range1 (by rfl) E.rng (pa_cons (pv 1) pa_nil)) (blkOk_by (N := n_lways) (sc := defScope s_law_ways) (by decide +kernel)) (fun _ _ _ _ _ => pg_name (i := 4) nd rfl (.inl rfl))
          (fun _ _ _ _ _ => pe_callTy call_int1 (by rfl) E.int boot_int (pa_cons (pe_cmpR op_eq (pv 3) (pv 4) (nomark _)) pa_nil))) pa_nil)) pa_nil)))))
    (pss_cons (ps_set (i := 5) nd rfl (.inl rfl) (pe_callTy (cr_xdict rfl (hu3 hr)) (by rfl) E.dic boot_dict (pa_cons (pe_lcW (own := [("_law_arrow", 6)]) (g := gName 6) rfl nd (pi_list (pv 2)) (blkOk_by (N := n_lways) (sc := defScope s_law_ways) (by decide +kernel)) (fun _ _ _ _ _ => pg_name (i := 6) nd rfl (.inl rfl))
        (fun _ _ _ _ _ => pe_tup (pa_cons (pv 6) (pa_cons (pe_tup pa_nil) pa_nil)))) pa_nil)))
    (pss_cons (ps_while PassesOwn.never (pt_cmpR (op_neTb hr.units) (pv 2) (pe_lst pa_nil) (nomark _))
      (pss_cons (ps_set (i := 7) nd rfl (.inl rfl) pe_xnew)
      (pss_cons (ps_forW rfl (pi_list (pv 2)) (pg_name (i := 6) nd rfl (.inl rfl))
        (pss_one (ps_forW rfl (pi_range1 (by rfl) E.rng (pa_cons (pv 1) pa_nil)) (pg_name (i := 8) nd rfl (.inl rfl))
          (pss_cons (ps_set (i := 9) nd rfl (.inl rfl) (pe_ca C2 hr (by rfl) (pa_cons (pv 0) (pa_cons (pv 6) (pa_cons (pv 8) pa_nil)))))
          (pss_one (ps_if (pt_cmp (pc_xnotin hu (pv 9) (pv 5)) (by rfl))
            (pss_one (ps_xput hu (pv 7) (pv 9) (pe_callB (cr_minT rfl (Nat.lt_of_succ_lt (hu3 hr))) (by rfl) E.min boot_min (pa_cons (pe_xget2 hu (pv 7) (pv 9) (pe_tup (pa_cons (pv 1) pa_nil)) ⟨rfl, rfl, rfl, rfl⟩)
              (pa_cons (pe_op op_catP (pe_tupP (pa_cons (pv 8) pa_nil)) (pe_xget hu (pv 5) (pv 6) (fun _ _ => rfl))) pa_nil))))) pss_nil))))))
      (pss_cons (ps_expr (pe_xupd hu (pv 5) (pv 7) ⟨rfl, rfl, rfl, rfl⟩))
      (pss_one (ps_set (i := 2) nd rfl (.inl rfl) (pe_callTy (call_xlist rfl) (by rfl) E.lst boot_list (pa_cons (pv 7) pa_nil))))))))
    (pss_one (ps_ret (pv 5)))))), ?_⟩
  have saL : ∀ {H'}, Same H H' → TT H' a M := fun s => hh.same s
  refine ⟨.ref a, rfl, a, _, rfl, .inr (.inl (.inl ha0)), Nat.zero_le _, fun ly nly => ⟨_, _, rfl, ?_⟩⟩
  rw [hrs0]
  have s0 : Same H (upd H ly (.lst [])) := same_upd nly
  -- the layer of units
  refine ⟨.int (M.length : Nat), rfl, (M.length : Nat), rfl, by omega, by omega, for_walk walk_rng (fun i σ H' => ∃ y3 bs, σ = [some (.ref a), some (.int (M.length : Nat)), some (.ref ly), y3, none, none, none, none, none, none] ∧ Same H H' ∧ H' ly = some (.lst (List.map (fun b : TB => V.ref b.1) bs)) ∧ List.map (fun b : TB => b.2) bs = (List.range i).map (fun j => unit M.length j) ∧ ∀ b ∈ bs, PT H' b.1 b.2)
    ⟨none, [], rfl, s0, upd_same, rfl, fun _ h => nomatch h⟩ (fun _ _ _ _ _ => trivial) (fun i v σ H1 H2 hi h hy => ?_) (fun σ H1 h => ?_)⟩
  · obtain ⟨y3, bs, rfl, s1, e1, hb1, p1⟩ := h
    obtain ⟨rfl, rfl⟩ := hy
    rw [zero_add_nat]
    refine ⟨.ref ly, rfl, .inl ⟨rfl, _, .inl (.inl e1)⟩, .int (M.length : Nat), rfl, (M.length : Nat), rfl, by omega, by omega, lc_walk walk_rng (small1000 (by omega)) (fun _ _ => trivial) (fun D j y H => y = .int (if j = i then 1 else 0)) (fun D j y H H' h _ => h) (fun D j x H3 H4 Kc hj s3 hD hy kc => ?_) (fun D H3 ys nD s3 e3 l3 r3 => ?_)⟩
    · obtain ⟨rfl, rfl⟩ := hy
      refine ⟨rfl, .int (i : Nat), rfl, .int (0 + (j : Int)), rfl, rfl, .inr ⟨_, rfl, kc _ _ (Same.refl _) ?_⟩⟩
      by_cases hji : j = i
      · subst hji
        rw [decide_eq_true (show V.int (j : Nat) = V.int (0 + (j : Int)) by rw [Int.zero_add])]
        simp
      · rw [decide_eq_false (fun z => hji (by have := V.int.inj z; omega)), if_neg hji]
        simp
    · have ey : ys = (unit M.length i).map V.int := by
        rw [vals_at l3 r3]
        unfold unit
        rw [List.map_map, Int.toNat_natCast]
        rfl
      subst ey
      refine ⟨D, _, rfl, .inl (.inl e3), fun t o nt ho => ?_⟩
      have sT : Same H3 (upd H3 t (.frz o (.tup ((unit M.length i).map V.int)))) := same_upd nt
      have e5 := sT _ _ (s3 _ _ e1)
      have hbl : bs.length = i := by
        have z := congrArg List.length hb1
        simpa using z
      refine ⟨ly, _, _, rfl, rfl, e5, by rw [List.length_map, hbl]; exact small1000 (by omega), _, bs ++ [(t, unit M.length i)], rfl, fun c u e => ?_, ?_, ?_, fun c hc => ?_⟩
      · rw [upd_ne (ne_of_none e nly)]
        exact sT _ _ (s3 _ _ (s1 _ _ e))
      · rw [upd_same, List.map_append]
        rfl
      · rw [List.map_append, hb1, List.range_succ, List.map_append]
        rfl
      · rcases List.mem_append.mp hc with hc | hc
        · have hp := ((p1 c hc).same s3).same sT
          exact hp.sb sb_upd (pt_ne hp e5 (fun _ _ z => nomatch z))
        · rw [List.mem_singleton.mp hc]
          refine ⟨o, ?_, ho⟩
          rw [upd_ne (fun z => by
            have e6 := s3 _ _ e1
            rw [← z] at e6
            exact absurd nt (by rw [e6]; exact fun h => nomatch h))]
          exact upd_same
  obtain ⟨y3, bs0, rfl, s1, e1, hb1, p1⟩ := h
  have hbl0 : bs0.length = M.length := by
    have z := congrArg List.length hb1
    simpa using z
  have hLp : List.Perm (List.map (fun b : TB => b.2) bs0) ((List.range M.length).map fun i => unit M.length i) := by
    rw [hb1]
    exact List.Perm.refl _
  obtain ⟨F0, L0, nd0⟩ := start_perm Gr hLp
  -- found = dict(..)
  refine ⟨.ref ly, rfl, ly, rfl, ⟨_, .inl (.inl e1)⟩, lc_walk walk_list (by rw [List.length_map, hbl0]; exact small1000 (by omega)) (fun H' s => .inl (.inl (s _ _ e1))) (fun D j y H => ∃ b t v, bs0[j]? = some b ∧ y = .ref t ∧ t ≠ D ∧ H t = some (.tup [.ref b.1, .ref v]) ∧ v ≠ D ∧ H v = some (.tup []))
    (fun D j y H H' h sb => ?_) (fun D j x H2 H3 Kc hj s2 hD hy kc => ?_) (fun D H2 ys nD s2 e2 l2 r2 => ?_)⟩
  · obtain ⟨b, t, v, h1, h2, h3, h4, h5, h6⟩ := h
    exact ⟨b, t, v, h1, h2, h3, sb _ _ h3 h4, h5, sb _ _ h5 h6⟩
  · obtain ⟨rfl, hx⟩ := hy
    obtain ⟨b, hb, rfl⟩ := refs_at hx
    obtain ⟨zs, hD⟩ := hD
    refine ⟨rfl, .ref b.1, rfl, Nat.zero_le _, fun v nv => ⟨by show 2 ≤ sizeLine; decide, fun t nt => ?_⟩⟩
    have sv : Same H3 (upd H3 v (.tup [])) := same_upd nv
    refine kc _ _ (sv.trans (same_upd nt)) ⟨b, t, v, hb, rfl, fun z => ?_, upd_same, fun z => ?_, (same_upd nt) _ _ upd_same⟩
    · have z1 := sv _ _ hD
      rw [← z, nt] at z1
      cases z1
    · rw [← z, nv] at hD
      cases hD
  obtain ⟨qs, hql, hqs⟩ := pick_all (ys := ys) (R := fun j y (q : Pr3) => y = .ref q.at_ ∧ bs0[j]? = some (q.key, q.ks) ∧ Pr3Ok H2 q ∧ q.ws = []) fun j y e => by
    obtain ⟨b, t, v, h1, h2, h3, h4, h5, h6⟩ := r2 j y e
    exact ⟨⟨t, b.1, b.2, v, []⟩, h2, h1, ⟨h4, (p1 b (List.mem_of_getElem? h1)).same s2, .inl h6⟩, rfl⟩
  have hqn : qs.length = bs0.length := by rw [hql, l2, List.length_map]
  have eys : ys = qs.map fun q => V.ref q.at_ := by
    apply List.ext_getElem?
    intro j
    rw [List.getElem?_map]
    rcases Nat.lt_or_ge j ys.length with hj | hj
    · have e1' : ys[j]? = some (ys[j]'hj) := List.getElem?_eq_getElem hj
      have e2' : qs[j]? = some (qs[j]'(by omega)) := List.getElem?_eq_getElem (by omega)
      rw [e1', e2', (hqs j _ _ e1' e2').1]
      rfl
    · rw [List.getElem?_eq_none hj, List.getElem?_eq_none (by omega)]
      rfl
  have hall : ∀ j q, qs[j]? = some q → bs0[j]? = some (q.key, q.ks) ∧ Pr3Ok H2 q ∧ q.ws = [] := fun j q e => by
    have hj := (List.getElem?_eq_some_iff.mp e).1
    have e1' : ys[j]? = some (ys[j]'(by omega)) := List.getElem?_eq_getElem (by omega)
    exact (hqs j _ q e1' e).2
  have etab : (qs.map fun q => (q.ks, q.ws)) = (List.map (fun b : TB => b.2) bs0).map fun x => (x, ([] : List Int)) := by
    apply List.ext_getElem?
    intro j
    rw [List.getElem?_map, List.getElem?_map, List.getElem?_map]
    cases e : qs[j]? with
    | none =>
      have := List.getElem?_eq_none_iff.mp e
      rw [List.getElem?_eq_none (by omega)]
      rfl
    | some q =>
      obtain ⟨h1, _, h3⟩ := hall j q e
      rw [h1]
      show some (q.ks, q.ws) = some (q.ks, [])
      rw [h3]
  refine ⟨D, qs, rfl, by rw [← eys]; exact .inl (.inl e2), fun q hq => by
    obtain ⟨j, hj⟩ := List.mem_iff_getElem?.mp hq
    exact (hall j q hj).2.1, fun fd H3 nfd2 s3 x3 => ?_⟩
  have nfd : H fd = none := (s1.trans s2).free nfd2
  have ekm : keysM (([] : Tab) ++ (List.map (fun b : TB => b.2) bs0).map fun x => (x, ([] : List Int))) = List.map (fun b : TB => b.2) bs0 := by
    unfold keysM
    rw [List.nil_append, List.map_map]
    exact List.map_id'' (fun _ => rfl) _
  rw [etab, mergeM_new _ [] (by rw [ekm]; exact nd0), List.nil_append] at x3
  have s13 := s1.trans (s2.trans s3)
  have e3 := s3 _ _ (s2 _ _ e1)
  have p3 : ∀ b ∈ bs0, PT H3 b.1 b.2 := fun b hb => ((p1 b hb).same s2).same s3
  -- while layer != []
  refine ⟨fun m σ H' => ∃ ly y3 y4 y6 y7 y8 y9 bs found k, σ = [some (.ref a), some (.int (M.length : Nat)), some (.ref ly), y3, y4, some (.ref fd), y6, y7, y8, y9] ∧ Same H H' ∧ XT P w H' fd found ∧ H' ly = some (.lst (List.map (fun b : TB => V.ref b.1) bs)) ∧ (∀ b ∈ bs, PT H' b.1 b.2) ∧ FoundInv M (SR RD) k found ∧ LayerInv (SR RD) k (List.map (fun b : TB => b.2) bs) ∧ (List.map (fun b : TB => b.2) bs).Nodup ∧
      (bs ≠ [] → k + 1 ≤ found.length) ∧ m = (2000 - found.length) + (if bs = [] then 0 else 1), ⟨_, ly, y3, none, none, none, none, none, bs0, _, 0, rfl, s13, x3, e3, p3, F0, L0, nd0, fun _ => by rw [List.length_map, List.length_map]; omega, rfl⟩, ?_⟩
  rintro m σ H4 ⟨ly, y3, y4, y6, y7, y8, y9, bs, found, k, rfl, s4, x4, e4, p4, F, hL, hnd, hk, rfl⟩
  refine ⟨.ref ly, rfl, Nat.zero_le _, fun e ne => ?_⟩
  have sE : Same H4 (upd H4 e (.lst [])) := same_upd ne
  refine ⟨ly, e, bs, rfl, rfl, .inl (.inl (sE _ _ e4)), fun b hb => ((p4 b hb).same sE).it, .inl (.inl upd_same), _, rfl, ?_⟩
  by_cases hbs : bs = []
  · subst hbs
    refine iteF ⟨.ref fd, rfl, q _ fd found (s4.trans sE) (x4.same sE) (bfs_done Gr F hL)⟩
  have hie : bs.isEmpty = false := by cases bs with
    | nil => exact absurd rfl hbs
    | cons b r => rfl
  rw [hie]
  have hfl := hnf F
  have hkl := hk hbs
  refine iteT ⟨fun σ' H' => ∃ m', m' < (2000 - found.length) + (if bs = [] then 0 else 1) ∧ ∃ ly y3 y4 y6 y7 y8 y9 bs found k, σ' = [some (.ref a), some (.int (M.length : Nat)), some (.ref ly), y3, y4, some (.ref fd), y6, y7, y8, y9] ∧ Same H H' ∧ XT P w H' fd found ∧ H' ly = some (.lst (List.map (fun b : TB => V.ref b.1) bs)) ∧ (∀ b ∈ bs, PT H' b.1 b.2) ∧ FoundInv M (SR RD) k found ∧ LayerInv (SR RD) k (List.map (fun b : TB => b.2) bs) ∧ (List.map (fun b : TB => b.2) bs).Nodup ∧
      (bs ≠ [] → k + 1 ≤ found.length) ∧ m' = (2000 - found.length) + (if bs = [] then 0 else 1), fun σ' H' h => h, ?_⟩
  -- B0: the heap ahead of the layer's search
  obtain ⟨B0, hB0⟩ : ∃ B0, B0 = upd H4 e (.lst []) := ⟨_, rfl⟩
  rw [← hB0] at sE ⊢
  have sB := s4.trans sE
  have xB := x4.same sE
  have eB := sE _ _ e4
  have pB : ∀ b ∈ bs, PT B0 b.1 b.2 := fun b hb => (p4 b hb).same sE
  have hbl : bs.length ≤ 2000 := by
    have z := nodup_le (m := (SR RD).map (·.1)) hnd fun x hx => List.mem_map.mpr ⟨(x, k), (hL x).mp hx, rfl⟩
    rw [List.length_map, List.length_map] at z
    exact Nat.le_trans z hSR
  have bLen : ∀ b ∈ bs, b.2.length = M.length := fun b hb => SR_len R ((hL b.2).mp (List.mem_map.mpr ⟨b, hb, rfl⟩))
  have bLook : ∀ b ∈ bs, lookM found b.2 = some (fw found b.2) ∧ (fw found b.2).length ≤ 5000 := fun b hb => by
    have hg := (hL b.2).mp (List.mem_map.mpr ⟨b, hb, rfl⟩)
    have e1 := F.fw (Nat.le_refl k) hg
    refine ⟨?_, ?_⟩
    · rw [e1]
      exact mem_look F.1 ((F.2 b.2 _).mpr ⟨k, Nat.le_refl k, hg, rfl⟩)
    · rw [e1]
      have := way_len M (SR RD) k b.2
      omega
  have hprod : ∀ j, j ≤ bs.length → j * M.length ≤ 16000 := fun j hj => Nat.le_trans (Nat.mul_le_mul (Nat.le_trans hj hbl) hn8) (by decide)
  refine fun lt B1 nlt sB1 xlt => ?_
  -- the layer's arrows
  refine ⟨.ref ly, rfl, ly, rfl, ⟨_, .inl (.inl (sB1 _ _ eB))⟩, for_walk (walk_list (xs := bs.map fun b => V.ref b.1)) (fun j σ H' => ∃ y6 y8 y9, σ = [some (.ref a), some (.int (M.length : Nat)), some (.ref ly), y3, y4, some (.ref fd), y6, some (.ref lt), y8, y9] ∧ Same B0 H' ∧ XT P w H' lt (((List.map (fun b : TB => b.2) bs).take j).foldl (rowM anyC M found M.length) []))
    ⟨y6, y8, y9, rfl, sB1, xlt⟩ (fun j σ H' _ h => ?_) (fun j v σ H5 H6 hj h hy => ?_) (fun σ H5 h => ?_)⟩
  · obtain ⟨_, _, _, _, s5, _⟩ := h
    exact .inl (.inl (s5 _ _ eB))
  · obtain ⟨y6, y8, y9, rfl, s5, x5⟩ := h
    obtain ⟨rfl, hv⟩ := hy
    obtain ⟨b, hb, rfl⟩ := refs_at hv
    have hbm := List.mem_of_getElem? hb
    have hLj : (List.map (fun b : TB => b.2) bs)[j]? = some b.2 := by rw [List.getElem?_map, hb]; rfl
    have hjl : j < bs.length := (List.getElem?_eq_some_iff.mp hb).1
    obtain ⟨hlook, hwl⟩ := bLook b hbm
    have hplen := layPart_len anyC M found M.length (List.map (fun b : TB => b.2) bs) j (by rw [List.length_map]; omega)
    have hp8 := hprod j (by omega)
    refine ⟨.int (M.length : Nat), rfl, (M.length : Nat), rfl, by omega, by omega, for_walk walk_rng (fun i σ H' => ∃ y8 y9, σ = [some (.ref a), some (.int (M.length : Nat)), some (.ref ly), y3, y4, some (.ref fd), some (.ref b.1), some (.ref lt), y8, y9] ∧ Same B0 H' ∧
      XT P w H' lt ((List.range i).foldl (stepM anyC M found b.2) (((List.map (fun b : TB => b.2) bs).take j).foldl (rowM anyC M found M.length) []))) ⟨y8, y9, rfl, s5, x5⟩ (fun _ _ _ _ _ => trivial) (fun i v σ H7 H8 hi h hy => ?_) (fun σ H7 h => ?_)⟩
    · obtain ⟨y8, y9, rfl, s7, x7⟩ := h
      obtain ⟨rfl, rfl⟩ := hy
      rw [zero_add_nat]
      have hiM : i < M.length := by omega
      have hilen := rowPart_len anyC M found b.2 (((List.map (fun b : TB => b.2) bs).take j).foldl (rowM anyC M found M.length) []) i
      rw [range_fold]
      obtain ⟨lat, hlat⟩ : ∃ lat, lat = (List.range i).foldl (stepM anyC M found b.2) (((List.map (fun b : TB => b.2) bs).take j).foldl (rowM anyC M found M.length) []) := ⟨_, rfl⟩
      rw [← hlat] at x7 hilen ⊢
      refine ⟨.ref a, rfl, .ref b.1, rfl, .int (i : Nat), rfl, a, b.1, M, b.2, i, rfl, hh.same (sB.trans s7), S, ((pB b hbm).same s7).it, bLen b hbm, hiM, fun H9 tm s9 hm => ?_⟩
      have s79 := s7.trans s9
      have x9 : XT P w H9 lt lat := x7.same s9
      refine ⟨.ref tm, rfl, .ref fd, rfl, fd, tm, found, turn M b.2 i, rfl, rfl, xB.same s79, hm.it, _, rfl, ?_⟩
      unfold stepM
      cases hlk : lookM found (turn M b.2 i) with
      | some o => exact iteF ⟨_, _, rfl, s79, x9⟩
      | none =>
        refine iteT ⟨.ref lt, rfl, lt, lat, rfl, x9, .ref tm, rfl, .int (M.length : Nat), rfl, by show 1 ≤ sizeLine; decide, fun td ntd => ?_⟩
        have sD : Same H9 (upd H9 td (.tup [V.int (M.length : Nat)])) := same_upd ntd
        refine ⟨tm, td, lat, turn M b.2 i, [((M.length : Nat) : Int)], rfl, rfl, x9.same sD, hm.it.same sD, .inl upd_same, fun v hv => ?_⟩
        refine way_cat rfl rfl rfl ((xB.same s79).same sD) (((pB b hbm).same s79).it.same sD) hlook hwl fun H11 tw s11 hw => ?_
        have s10 := (s79.trans sD).trans s11
        have x10 : XT P w H11 lt lat := (x9.same sD).same s11
        have m10 : PT H11 tm (turn M b.2 i) := (hm.same sD).same s11
        have hv11 := hv.same s11
        refine ⟨v, tw, _, _, rfl, hv11.sq, hw.sq, ?_⟩
        have hva : IT H11 (if HT.lexLt ((i : Int) :: fw found b.2) ((lookM lat (turn M b.2 i)).getD [((M.length : Nat) : Int)]) = true then tw else v) (best (lookM lat (turn M b.2 i)) ((i : Int) :: fw found b.2)) := by
          rw [lex_eq]
          cases hl : lookM lat (turn M b.2 i) with
          | none =>
            show IT H11 (if lexLt ((i : Int) :: fw found b.2) [((M.length : Nat) : Int)] = true then tw else v) ((i : Int) :: fw found b.2)
            rw [if_pos (lexLt_cons.mpr (.inl (by omega)))]
            exact hw
          | some o =>
            rw [hl] at hv11
            show IT H11 (if lexLt ((i : Int) :: fw found b.2) o = true then tw else v) (if lexLt ((i : Int) :: fw found b.2) o = true then ((i : Int) :: fw found b.2) else o)
            split
            · exact hw
            · exact hv11
        refine ⟨.ref lt, rfl, .ref tm, rfl, lt, tm, _, turn M b.2 i, _, lat, rfl, rfl, rfl, x10, m10, hva, ?_, fun H12 sb12 x12 => ?_⟩
        · exact Nat.lt_of_le_of_lt (show lat.length ≤ 17000 by omega) (by decide)
        · exact ⟨_, _, rfl, same_sb nlt s10 sb12, x12⟩
    · obtain ⟨y8, y9, rfl, s7, x7⟩ := h
      refine ⟨_, _, _, rfl, s7, ?_⟩
      rw [fold_succ _ _ _ hLj]
      have e1 : ((M.length : Nat) : Int).toNat = M.length := Int.toNat_natCast _
      rw [e1] at x7
      exact x7
  -- found.update(later); layer = list(later)
  obtain ⟨y6, y8, y9, rfl, s5, x5⟩ := h
  have etk2 : (List.map (fun b : TB => b.2) bs).take (bs.map fun b => V.ref b.1).length = bs.map (·.2) := List.take_of_length_le (by simp)
  rw [etk2] at x5
  obtain ⟨F2, L2'⟩ := bfs_step S Gr F hL
  obtain ⟨g1, g2'⟩ := grows S Gr F hL
  obtain ⟨ndl, _⟩ := layer_next S Gr F hL
  have hfl2 := hnf F2
  have x5' : XT P w H5 lt (layerM anyC M found M.length (List.map (fun b : TB => b.2) bs)) := x5
  have xf5 := xB.same s5
  have hne : fd ≠ lt := by
    obtain ⟨φ, eφ⟩ := xB.some
    exact ne_of_none eφ nlt
  have hll : (layerM anyC M found M.length (List.map (fun b : TB => b.2) bs)).length ≤ 16000 := by
    have z := layPart_len anyC M found M.length (List.map (fun b : TB => b.2) bs) (List.map (fun b : TB => b.2) bs).length (Nat.le_refl _)
    rw [List.take_length] at z
    have z2 := hprod bs.length (Nat.le_refl _)
    rw [List.length_map] at z
    exact Nat.le_trans z z2
  refine ⟨.ref fd, rfl, fd, found, rfl, xf5, .ref lt, rfl, lt, found, _, rfl, hne, xf5, x5', fun z => by rw [z] at hkl; simp at hkl, Nat.le_of_lt (Nat.lt_of_le_of_lt (Nat.add_le_add hfl hll) (by decide)), fun H6 sb6 x6 => ?_⟩
  have xl6 := x5'.sb xf5 hne.symm sb6
  refine ⟨.ref lt, rfl, lt, _, rfl, xl6, fun p2 bs2 np2 hk2 => ?_⟩
  have s6 : Same H H6 := same_sb nfd (sB.trans s5) sb6
  have sP2 : Same H6 (upd H6 p2 (.lst (bs2.map fun b => V.ref b.1))) := same_upd np2
  refine ⟨_, ?_, p2, _, _, _, _, _, _, bs2, _, k + 1, rfl, s6.trans sP2, x6.same sP2, upd_same, fun b hb => (hk2.2 b hb).same sP2, F2, by rw [hk2.1]; exact L2', by rw [hk2.1]; exact ndl, fun hb2 => ?_, rfl⟩
  · rw [if_neg hbs]
    by_cases hl0 : layerM anyC M found M.length (List.map (fun b : TB => b.2) bs) = []
    · have hb0' : bs2 = [] := by
        have z := hk2.1
        rw [hl0] at z
        exact List.map_eq_nil_iff.mp z
      rw [if_pos hb0', g2' hl0]
      omega
    · have z := g1 hl0
      split <;> omega
  · have hl0 : layerM anyC M found M.length (List.map (fun b : TB => b.2) bs) ≠ [] := fun z => hb2 (by
      have z2 := hk2.1
      rw [z] at z2
      exact List.map_eq_nil_iff.mp z2)
    have z := g1 hl0
    omega
end
end K31

set_option Elab.async false
set_option linter.all false
set_option maxRecDepth 100000
set_option maxHeartbeats 4000000
namespace K31
open PySem PySem.Spec PyProof.Rows L2
/-! ### the walk, 17: halls side by side -/
/-- a list of lists of ints -/
def LL (H : Hp) (l : Addr) (M : Mat) : Prop := ∃ rs : List Addr, H l = some (.lst (rs.map V.ref)) ∧ rs.length = M.length ∧ ∀ (i : Nat) (r : Addr) (ns : List Int), rs[i]? = some r → M[i]? = some ns → H r = some (.lst (ns.map V.int))
theorem LL.same {H H' : Hp} {l : Addr} {M : Mat} (s : Same H H') (h : LL H l M) : LL H' l M := by
  obtain ⟨rs, h1, h2, h3⟩ := h
  exact ⟨rs, s _ _ h1, h2, fun i r ns e1 e2 => s _ _ (h3 i r ns e1 e2)⟩
theorem ints_sb {K : PySem.W.Frag} {H H' : Hp} {r a : Addr} {ns : List Int} (hr : RowAt K H r) (e : H a = some (.lst (ns.map V.int))) (sb : SB r H H') : H' a = some (.lst (ns.map V.int)) := by
  refine sb _ _ (fun z => ?_) e
  obtain ⟨xs, e2, sc, l, rfl⟩ := hr.some
  rw [z, e2] at e
  have h := HO.lst.inj (Option.some.inj e)
  cases ns with
  | nil => cases h
  | cons n t => cases h
theorem LL.sb {K : PySem.W.Frag} {H H' : Hp} {r l : Addr} {M : Mat} (hr : RowAt K H r) (h : LL H l M) (sb : SB r H H') : LL H' l M := by
  obtain ⟨rs, h1, h2, h3⟩ := h
  refine ⟨rs, sb _ _ (fun z => ?_) h1, h2, fun i r' ns e1 e2 => ints_sb hr (h3 i r' ns e1 e2) sb⟩
  obtain ⟨sc, i, sd, c, ns, er, _⟩ := hr
  rw [z, er] at h1
  have h := HO.lst.inj (Option.some.inj h1)
  match rs, h with
  | _ :: [], h => cases h
  | _ :: _ :: _, h => cases h
def rLenSeq (K : PySem.W.Frag) : List V → Hp → VK → Prop := fun xs H Q => ∃ p ys, xs = [.ref p] ∧ (SqL K H p ys ∨ SqT K H p ys) ∧ Q (.int ys.length) H
theorem call_lenK {X : Cx} : CallR X (.builtin "len") (rLenSeq X.K) := call_len_seq
def rListOf (K : PySem.W.Frag) : List V → Hp → VK → Prop := fun xs H Q => ∃ p ys, xs = [.ref p] ∧ (SqL K H p ys ∨ SqT K H p ys) ∧ ∀ l, H l = none → Q (.ref l) (upd H l (.lst ys))
theorem call_listK {X : Cx} : CallR X (.type "list") (rListOf X.K) := call_list_of
def rTupOf (K : PySem.W.Frag) : List V → Hp → VK → Prop := fun xs H Q => ∃ p ys, xs = [.ref p] ∧ SqL K H p ys ∧ ∀ l, H l = none → Q (.ref l) (upd H l (.tup ys))
theorem call_tupK {X : Cx} : CallR X (.type "tuple") (rTupOf X.K) := by
  intro pins s σ H xs us Q I r h
  obtain ⟨p, ys, e, hs, q⟩ := h
  exact call_tuple_of pins s σ H xs us Q I r ⟨p, ys, e, .inl ⟨hs, q⟩⟩
/-- the lists that a comprehension made -/
theorem ll_of {H : Hp} {D : Addr} {ys : List V} {M : Mat} (e : H D = some (.lst ys)) (l : ys.length = M.length) (h : ∀ (j : Nat) (y : V), ys[j]? = some y → ∃ r : Addr, y = V.ref r ∧ ∀ ns : List Int, M[j]? = some ns → H r = some (.lst (ns.map V.int))) : LL H D M := by
  obtain ⟨rs, h1, h2⟩ := pick_all (ys := ys) (R := fun (j : Nat) (y : V) (r : Addr) => y = V.ref r ∧ ∀ ns : List Int, M[j]? = some ns → H r = some (.lst (ns.map V.int))) h
  have ey : ys = rs.map V.ref := by
    apply List.ext_getElem?
    intro j
    rw [List.getElem?_map]
    rcases Nat.lt_or_ge j ys.length with hj | hj
    · have e1 : ys[j]? = some (ys[j]'hj) := List.getElem?_eq_getElem hj
      have e2 : rs[j]? = some (rs[j]'(by omega)) := List.getElem?_eq_getElem (by omega)
      rw [e1, e2, (h2 j _ _ e1 e2).1]
      rfl
    · rw [List.getElem?_eq_none hj, List.getElem?_eq_none (by omega)]
      rfl
  refine ⟨rs, by rw [← ey]; exact e, by omega, fun i r ns e1 e2 => ?_⟩
  have hj := (List.getElem?_eq_some_iff.mp e1).1
  have e3 : ys[i]? = some (ys[i]'(by omega)) := List.getElem?_eq_getElem (by omega)
  exact (h2 i _ r e3 e1).2 ns e2
theorem ll_row {H : Hp} {rs : List Addr} {M : Mat} (hl : rs.length = M.length) (h3 : ∀ (i : Nat) (r : Addr) (ns : List Int), rs[i]? = some r → M[i]? = some ns → H r = some (.lst (ns.map V.int))) {i : Nat} {v : V} (hv : (rs.map V.ref)[i]? = some v) : ∃ r ns, v = .ref r ∧ rs[i]? = some r ∧ M[i]? = some ns ∧ H r = some (.lst (ns.map V.int)) := by
  rw [List.getElem?_map] at hv
  cases e : rs[i]? with
  | none => rw [e] at hv; cases hv
  | some r =>
    rw [e] at hv
    have hi : i < M.length := by
      have := (List.getElem?_eq_some_iff.mp e).1
      omega
    exact ⟨r, M[i]'hi, (Option.some.inj hv).symm, rfl, List.getElem?_eq_getElem hi, h3 i r _ e (List.getElem?_eq_getElem hi)⟩
theorem ne_fresh {H : Hp} {a D : Addr} {o : HO} (h : H D = some o) (n : H a = none) : a ≠ D := fun z => by rw [z, h] at n; cases n
section
variable {P : Program} {w : World} {K : PySem.W.Frag} {mg : Str → Option Value} {base : Heap}
def spBeside : Sp := fun vs H Q _ => ∃ (a b : Addr) (A B : Mat), vs = [.ref a, .ref b] ∧ LL H a A ∧ LL H b B ∧ A.length ≤ 8 ∧ B.length ≤ 8 ∧ (∀ r ∈ A, r.length ≤ 8) ∧ (∀ r ∈ B, r.length ≤ 8) ∧ ∀ H' l, Same H H' → LL H' l (besideM A B) → Q (.ref l) H'
abbrev n_beside : List Str := ["_law_one", "_law_other", "_law_found", "_law_own"]
theorem sc_beside : FnScope n_beside ["_law_one", "_law_other"] (defScope s_law_beside) := ⟨rfl, rfl, rfl, by decide +kernel, rfl, by decide +kernel, by decide +kernel⟩
/-- [0] * len(x) -/
theorem rd_zeros {σ : L2.St} {H : Hp} {k : Nat} {x : Addr} {ys : List V} {Q : VK} (hk : σ[k]? = some (some (.ref x))) (hx : SqL K H x ys) (hl : ys.length ≤ 8) (q : ∀ H' l, Same H H' → (∀ D o, H D = some o → l ≠ D) → H' l = some (.lst ((zeros ys.length).map V.int)) → Q (.ref l) H') :
    tOp rRep (tLst (tCons (tC (.int 0)) tNil)) (tCB (rLenSeq K) (tCons (tVar k) tNil)) σ H Q := by
  refine ⟨by show 1 ≤ sizeLine; decide, fun l0 n0 => ?_⟩
  have s0 : Same H (upd H l0 (.lst [.int 0])) := same_upd n0
  refine ⟨.ref x, hk, x, ys, rfl, .inl (s0.seq hx), l0, _, _, rfl, rfl, upd_same, by omega, by omega, ?_, fun l n1 => ?_⟩
  · show 1 * ((ys.length : Nat) : Int).toNat ≤ sizeLine
    have := small1000 (show ys.length ≤ 1000 by omega)
    omega
  · have e : (List.replicate (((ys.length : Nat) : Int).toNat) [V.int 0]).flatten = (zeros ys.length).map V.int := by
      rw [flat_rep, Int.toNat_natCast]
      exact rep_int _ _
    rw [e]
    refine q _ l (s0.trans (same_upd n1)) (fun D o hD => ?_) upd_same
    have := s0 _ _ hD
    exact ne_fresh this n1
theorem ok_beside (E : Ev K mg) (D : Dd K mg "_law_beside" s_law_beside) : Ca P w K mg base 1 "_law_beside" ["_law_one", "_law_other"] spBeside := by
  refine mk_ca (k := 0) D sc_beside (fun vs H Q E h => ?_) (fun _ _ _ _ _ _ us hl => match us, hl with | [_, _], _ => rfl) (fun f cd A outer s H vs Q E' hr h => ?_)
  · obtain ⟨a, b, A, B, rfl, _⟩ := h
    rfl
  obtain ⟨a, b, MA, MB, rfl, ha, hb, hA8, hB8, hAr, hBr, q⟩ := h
  have nd := sc_beside.nd
  refine ⟨_, pss_cons (ps_setLcW (i := 2) (own := [("_law_own", 3)]) (g := gName 3) (te := tOp rCat (tCB (rListOf K) (tCons (tVar 3) tNil)) (tOp rRep (tLst (tCons (tC (.int 0)) tNil)) (tCB (rLenSeq K) (tCons (tVar 1) tNil)))) rfl nd rfl rfl (sw_true rfl rfl rfl (by decide +kernel)) (pi_list (pv 0)) (blkOk_by (N := n_beside) (sc := defScope s_law_beside) (by decide +kernel))
        (fun _ _ _ _ _ => pg_name (i := 3) nd rfl (.inl rfl)) (fun _ _ _ _ _ => pe_op op_cat (pe_callTy call_listK (by rfl) E.lst boot_list (pa_cons (pv 3) pa_nil)) (pe_op op_rep (pe_lst (pa_cons pe_int pa_nil)) (pe_callB call_lenK (by rfl) E.len PySem.boot_len (pa_cons (pv 1) pa_nil)))))
    (pss_one (ps_ret (pe_op op_cat (pv 2) (pe_lcW (own := [("_law_own", 3)]) (g := gName 3) (te := tOp rCat (tOp rRep (tLst (tCons (tC (.int 0)) tNil)) (tCB (rLenSeq K) (tCons (tVar 0) tNil))) (tCB (rListOf K) (tCons (tVar 3) tNil))) rfl nd (pi_list (pv 1)) (blkOk_by (N := n_beside) (sc := defScope s_law_beside) (by decide +kernel))
        (fun _ _ _ _ _ => pg_name (i := 3) nd rfl (.inl rfl)) (fun _ _ _ _ _ => pe_op op_cat (pe_op op_rep (pe_lst (pa_cons pe_int pa_nil)) (pe_callB call_lenK (by rfl) E.len PySem.boot_len (pa_cons (pv 0) pa_nil))) (pe_callTy call_listK (by rfl) E.lst boot_list (pa_cons (pv 3) pa_nil))))))), ?_⟩
  obtain ⟨ra, ea, la, h3a⟩ := ha
  obtain ⟨rb, eb, lb, h3b⟩ := hb
  have hral : (ra.map V.ref).length = MA.length := by rw [List.length_map, la]
  have hrbl : (rb.map V.ref).length = MB.length := by rw [List.length_map, lb]
  refine ⟨.ref a, rfl, a, rfl, ⟨_, .inl (.inl ea)⟩, lc_walk walk_list (by rw [hral]; exact small1000 (by omega)) (fun H' s => .inl (.inl (s _ _ ea))) (fun D j y H => ∃ r, y = .ref r ∧ r ≠ D ∧ ∀ ns : List Int, (MA.map fun r => r ++ zeros MB.length)[j]? = some ns → H r = some (.lst (ns.map V.int)))
    (fun D j y H H' h sb => ?_) (fun D j x H2 H3 Kc hj s2 hD hy kc => ?_) (fun D1 H2 ys nD s2 e2 l2 r2 => ?_)⟩
  · obtain ⟨r, h1, h2, h3⟩ := h
    exact ⟨r, h1, h2, fun ns e => sb _ _ h2 (h3 ns e)⟩
  · obtain ⟨rfl, hx⟩ := hy
    obtain ⟨r, ns, rfl, er, em, _⟩ := ll_row la h3a hx
    have hr0 : H3 r = some (.lst (ns.map V.int)) := s2 _ _ (h3a j r ns er em)
    obtain ⟨zs, hD⟩ := hD
    have hn8 := hAr ns (List.mem_of_getElem? em)
    refine ⟨rfl, .ref r, rfl, r, _, rfl, .inl (.inl (.inl hr0)), fun l1 n1 => ?_⟩
    have sL : Same H3 (upd H3 l1 (.lst (ns.map V.int))) := same_upd n1
    refine rd_zeros (x := b) rfl (.inl (.inl (sL _ _ (s2 _ _ eb)))) (by rw [hrbl]; exact hB8) fun H4 l2 s4 hf4 e4 => ?_
    rw [hrbl] at e4
    refine ⟨l1, l2, _, _, rfl, rfl, s4 _ _ upd_same, e4, ?_, fun l3 n3 => ?_⟩
    · simp only [List.length_map, zeros, List.length_replicate]
      exact Nat.le_of_lt (small1000 (by omega))
    · refine kc _ _ ((sL.trans s4).trans (same_upd n3)) ⟨l3, rfl, ne_fresh (s4 _ _ (sL _ _ hD)) n3, fun ns2 e => ?_⟩
      rw [List.getElem?_map, em] at e
      rw [← Option.some.inj e, upd_same, List.map_append]
  have LA : LL H2 D1 (MA.map fun r => r ++ zeros MB.length) := ll_of e2 (by rw [l2, hral, List.length_map]) fun j y e => by
    obtain ⟨r, h1, _, h3⟩ := r2 j y e
    exact ⟨r, h1, h3⟩
  have eb2 := s2 _ _ eb
  have ea2 := s2 _ _ ea
  refine ⟨.ref D1, rfl, .ref b, rfl, b, rfl, ⟨_, .inl (.inl eb2)⟩, lc_walk walk_list (by rw [hrbl]; exact small1000 (by omega)) (fun H' s => .inl (.inl (s _ _ eb2))) (fun D j y H => ∃ r, y = .ref r ∧ r ≠ D ∧ ∀ ns : List Int, (MB.map fun r => zeros MA.length ++ r)[j]? = some ns → H r = some (.lst (ns.map V.int)))
    (fun D j y H H' h sb => ?_) (fun D j x H4 H5 Kc hj s4 hD hy kc => ?_) (fun D2 H4 zs nD2 s4 e4 l4 r4 => ?_)⟩
  · obtain ⟨r, h1, h2, h3⟩ := h
    exact ⟨r, h1, h2, fun ns e => sb _ _ h2 (h3 ns e)⟩
  · obtain ⟨rfl, hx⟩ := hy
    obtain ⟨r, ns, rfl, er, em, _⟩ := ll_row lb h3b hx
    have hr0 : H5 r = some (.lst (ns.map V.int)) := s4 _ _ (s2 _ _ (h3b j r ns er em))
    obtain ⟨zs, hD⟩ := hD
    have hn8 := hBr ns (List.mem_of_getElem? em)
    refine ⟨rfl, rd_zeros (x := a) rfl (.inl (.inl (s4 _ _ ea2))) (by rw [hral]; exact hA8) fun H6 l1 s6 hf6 e6 => ?_⟩
    rw [hral] at e6
    refine ⟨.ref r, rfl, r, _, rfl, .inl (.inl (.inl (s6 _ _ hr0))), fun l2 n2 => ?_⟩
    have sL : Same H6 (upd H6 l2 (.lst (ns.map V.int))) := same_upd n2
    refine ⟨l1, l2, _, _, rfl, rfl, sL _ _ e6, upd_same, ?_, fun l3 n3 => ?_⟩
    · simp only [List.length_map, zeros, List.length_replicate]
      exact Nat.le_of_lt (small1000 (by omega))
    · refine kc _ _ ((s6.trans sL).trans (same_upd n3)) ⟨l3, rfl, ne_fresh (sL _ _ (s6 _ _ hD)) n3, fun ns2 e => ?_⟩
      rw [List.getElem?_map, em] at e
      rw [← Option.some.inj e, upd_same, List.map_append]
  have LB : LL H4 D2 (MB.map fun r => zeros MA.length ++ r) := ll_of e4 (by rw [l4, hrbl, List.length_map]) fun j y e => by
    obtain ⟨r, h1, _, h3⟩ := r4 j y e
    exact ⟨r, h1, h3⟩
  have LA4 := LA.same s4
  obtain ⟨rA, eA, lA, hA⟩ := LA4
  obtain ⟨rB, eB, lB, hB⟩ := LB
  rw [List.length_map] at lA lB
  refine ⟨D1, D2, _, _, rfl, rfl, eA, eB, ?_, fun l n => ?_⟩
  · rw [List.length_map, List.length_map]
    exact Nat.le_of_lt (small1000 (by omega))
  · have sF : Same H4 (upd H4 l (.lst (rA.map V.ref ++ rB.map V.ref))) := same_upd n
    refine q _ l ((s2.trans s4).trans sF) ⟨rA ++ rB, by rw [upd_same, List.map_append], by unfold besideM; simp [lA, lB], fun i r ns e1 e2 => ?_⟩
    unfold besideM at e2
    rcases Nat.lt_or_ge i rA.length with hi | hi
    · rw [List.getElem?_append_left hi] at e1
      rw [List.getElem?_append_left (by rw [List.length_map]; omega)] at e2
      exact sF _ _ (hA i r ns e1 e2)
    · rw [List.getElem?_append_right hi] at e1
      rw [List.getElem?_append_right (by rw [List.length_map]; omega), List.length_map] at e2
      rw [lA] at e1
      exact sF _ _ (hB _ r ns e1 e2)
end
end K31

set_option Elab.async false
set_option linter.all false
set_option maxRecDepth 100000
set_option maxHeartbeats 4000000
namespace K31
open PySem PySem.Spec PyProof.Rows L2
/-! ### the walk, 18: the lamps mixed -/
theorem SB.own {D : Addr} {H H1 : Hp} {l : Addr} {o : HO} (s : SB D H H1) (n : H l = none) : SB D H (L2.upd H1 l o) := fun c u k e => by
  rw [upd_ne (ne_of_none e n)]
  exact s c u k e
theorem erase_perm {α : Type} : ∀ {xs : List α} {k : Nat} {y : α}, xs[k]? = some y → (y :: xs.eraseIdx k).Perm xs
  | [], _, _, h => by simp at h
  | x :: xs, 0, y, h => by
    rw [List.getElem?_cons_zero] at h
    rw [Option.some.inj h]
    exact List.Perm.refl _
  | x :: xs, k + 1, y, h => by
    rw [List.getElem?_cons_succ] at h
    exact (List.Perm.swap x y _).trans ((erase_perm h).cons x)
theorem erase_map {α β : Type} (f : α → β) : ∀ (xs : List α) (k : Nat), (xs.map f).eraseIdx k = (xs.eraseIdx k).map f
  | [], _ => rfl
  | _ :: _, 0 => rfl
  | x :: xs, k + 1 => by
    show f x :: (xs.map f).eraseIdx k = f x :: (xs.eraseIdx k).map f
    rw [erase_map f xs k]
theorem ne_row {K : PySem.W.Frag} {H : Hp} {r a : Addr} {ns : List Int} (hr : RowAt K H r) (e : H a = some (.lst (ns.map V.int))) : a ≠ r := fun z => by
  obtain ⟨xs, e2, sc, l, rfl⟩ := hr.some
  rw [z, e2] at e
  have h := HO.lst.inj (Option.some.inj e)
  cases ns with
  | nil => cases h
  | cons n t => cases h
theorem row_own {K : PySem.W.Frag} {H : Hp} {r l : Addr} {ms ns' : List Int} (hr : RowAt K H r) (el : H l = some (.lst (ms.map V.int))) : RowAt K (upd H l (.lst (ns'.map V.int))) r := by
  have lr : l ≠ r := ne_row hr el
  obtain ⟨sc, i, sd, c, ns, er, hs, h4⟩ := hr
  by_cases z : sc = l
  · subst z
    exact ⟨sc, i, sd, c, ns', by rw [upd_ne lr.symm]; exact er, .inl (.inl upd_same), h4⟩
  · refine ⟨sc, i, sd, c, ns, by rw [upd_ne lr.symm]; exact er, ?_, h4⟩
    rcases hs with (h | ⟨o, h⟩) | h
    · exact .inl (.inl (by rw [upd_ne z]; exact h))
    · exact .inl (.inr ⟨o, by rw [upd_ne z]; exact h⟩)
    · exact .inr h
theorem tt_of {H : Hp} {D : Addr} {ys : List V} {M : Mat} (e : H D = some (.tup ys)) (l : ys.length = M.length) (h : ∀ (j : Nat) (y : V), ys[j]? = some y → ∃ r : Addr, y = V.ref r ∧ ∀ ns : List Int, M[j]? = some ns → IT H r ns) : TT H D M := by
  obtain ⟨rs, h1, h2⟩ := pick_all (ys := ys) (R := fun (j : Nat) (y : V) (r : Addr) => y = V.ref r ∧ ∀ ns : List Int, M[j]? = some ns → IT H r ns) h
  have ey : ys = rs.map V.ref := by
    apply List.ext_getElem?
    intro j
    rw [List.getElem?_map]
    rcases Nat.lt_or_ge j ys.length with hj | hj
    · have e1 : ys[j]? = some (ys[j]'hj) := List.getElem?_eq_getElem hj
      have e2 : rs[j]? = some (rs[j]'(by omega)) := List.getElem?_eq_getElem (by omega)
      rw [e1, e2, (h2 j _ _ e1 e2).1]
      rfl
    · rw [List.getElem?_eq_none hj, List.getElem?_eq_none (by omega)]
      rfl
  refine ⟨rs, by rw [← ey]; exact e, by omega, fun i r ns e1 e2 => ?_⟩
  have hj := (List.getElem?_eq_some_iff.mp e1).1
  have e3 : ys[i]? = some (ys[i]'(by omega)) := List.getElem?_eq_getElem (by omega)
  exact (h2 i _ r e3 e1).2 ns e2
theorem lm_get {od : List Nat} {j : Nat} {x : V} (h : ((lm od).map V.int)[j]? = some x) : ∃ i : Nat, od[j]? = some i ∧ x = .int (i : Nat) := by
  unfold lm at h
  rw [List.getElem?_map, List.getElem?_map] at h
  cases e : od[j]? with
  | none => rw [e] at h; cases h
  | some i => rw [e] at h; exact ⟨i, rfl, (Option.some.inj h).symm⟩
theorem rg_lm (n : Nat) : rgV 0 n = (lm (List.range n)).map V.int := by
  unfold rgV lm
  rw [List.map_map, show ((n : Int) - 0).toNat = n by omega]
  apply List.map_congr_left
  intro i _
  show V.int (0 + (i : Int)) = V.int (i : Int)
  rw [Int.zero_add]
theorem seqIx {k n : Nat} (h : k < n) : seqIndex? (k : Int) n = some k := by
  unfold seqIndex?
  have h1 : ¬ ((k : Int) < 0) := by omega
  have h2 : (0 : Int) ≤ k := by omega
  have h3 : (k : Int) < n := by omega
  simp [h1, h3]
def mixScope : Scope := { kind := .function, names := [(".0", .local), ("_law_one", .cell), ("tuple", .globalImplicit), ("_law_order", .cell), ("_law_pushes", .cell)], isGenerator := false, isCoroutine := false }
section
variable {P : Program} {w : World} {K : PySem.W.Frag} {mg : Str → Option Value} {base : Heap}
def spMixed (K : PySem.W.Frag) : Sp := fun vs H Q _ => ∃ (r l : Addr) (M : Mat), vs = [.ref r, .ref l] ∧ RowAt K H r ∧ LL H l M ∧ 1 ≤ M.length ∧ M.length ≤ 8 ∧ (∀ x ∈ M, x.length = M.length) ∧
  ∀ H' t o, SB r H H' → RowAt K H' r → List.Perm o (List.range M.length) → TT H' t (mixedM M o) → Q (.ref t) H'
abbrev n_mixed : List Str := ["_law_row", "_law_pushes", "_law_left", "_law_order", "_law_one", "_law_other"]
theorem sc_mixed : FnScope n_mixed ["_law_row", "_law_pushes"] (defScope s_law_mixed) := ⟨rfl, rfl, rfl, by decide +kernel, rfl, by decide +kernel, by decide +kernel⟩
theorem ok_mixed (E : Ev K mg) (D : Dd K mg "_law_mixed" s_law_mixed) (C : Ca P w K mg base 1 "_law_taken" ["_law_row", "_law_many"] (spTaken K)) : Ca P w K mg base 2 "_law_mixed" ["_law_row", "_law_pushes"] (spMixed K) := by
  refine mk_ca (k := 1) D sc_mixed (fun vs H Q E h => ?_) (fun _ _ _ _ _ _ us hl => match us, hl with | [_, _], _ => rfl) (fun f cd A outer s H vs Q E' hr h => ?_)
  · obtain ⟨r, l, M, rfl, _⟩ := h
    rfl
  obtain ⟨r, l, M, rfl, hrow, hl, h1, h8, hrows, q⟩ := h
  have nd := sc_mixed.nd
  refine ⟨_, pss_cons (ps_asg (pe_tup (pa_cons (pe_listRg rfl (by rfl) E.lst (prg_1 (by rfl) E.rng (pe_callB call_lenK (by rfl) E.len PySem.boot_len (pa_cons (pv 1) pa_nil)))) (pa_cons (pe_lst pa_nil) pa_nil))) (pg_tup rfl (pgs_cons (pg_name (i := 2) nd rfl (.inl rfl)) (pgs_cons (pg_name (i := 3) nd rfl (.inr rfl)) pgs_nil))))
    (pss_cons (ps_while PassesOwn.never (pt_cmpR (op_neI .li hr.units) (pv 2) (pe_lst pa_nil) (nomark _))
      (pss_one (ps_expr (pe_bm PySem.F.plainAttrs_list PySem.F.slot_list_append PySem.F.type_list_append mt_append (pv 3) (pa_cons (pe_bm PySem.F.plainAttrs_list PySem.F.slot_list_pop PySem.F.type_list_pop mt_popAt (pv 2)
        (pa_cons (pe_ca C hr (by rfl) (pa_cons (pv 0) (pa_cons (pe_callB call_lenK (by rfl) E.len PySem.boot_len (pa_cons (pv 2) pa_nil)) pa_nil))) pa_nil)) pa_nil)))))
    (pss_one (ps_ret (pe_callTy call_tupK (by rfl) E.tup boot_tuple (pa_cons (pe_lcW (own := [("_law_one", 4)]) (g := gName 4)
      (te := tCB (rTupOf K) (tCons (tLcW (iList K (tVar 3)) (gName 5) (tOp (rIxL K) (tOp (rIxL K) (tVar 1) (tVar 4)) (tVar 5)) [5]) tNil)) rfl nd (pi_list (pv 3)) (blkOk_by (N := n_mixed) (sc := defScope s_law_mixed) (by decide +kernel))
      (fun _ _ _ _ _ => pg_name (i := 4) nd rfl (.inr rfl))
      (fun _ _ _ _ _ => pe_callTy call_tupK (by rfl) E.tup boot_tuple (pa_cons (pe_lcW (own := [("_law_other", 5)]) (g := gName 5) (te := tOp (rIxL K) (tOp (rIxL K) (tVar 1) (tVar 4)) (tVar 5)) rfl nd (pi_list (pv 3)) (blkOk_by (N := n_mixed) (sc := mixScope) (by decide +kernel))
        (fun _ _ _ _ _ => pg_name (i := 5) nd rfl (.inl rfl)) (fun _ _ _ _ _ => pe_ix ix_list (pe_ix ix_list (pv 1) (pv 4) (fun _ _ => rfl)) (pv 5) (fun _ _ => rfl))) pa_nil))) pa_nil))))), ?_⟩
  obtain ⟨rs, eM, lM, h3⟩ := hl
  have hrl : (rs.map V.ref).length = M.length := by rw [List.length_map, lM]
  refine ⟨.ref l, rfl, l, _, rfl, .inl (.inl (.inl eM)), (rs.map V.ref).length, rfl, by rw [hrl]; exact RgOk.of_le (by omega) (by omega) (by omega) (by omega), fun l1 n1 => ?_⟩
  rw [hrl, rg_lm]
  obtain ⟨H1, hH1⟩ : ∃ H1, H1 = upd H l1 (.lst ((lm (List.range M.length)).map V.int)) := ⟨_, rfl⟩
  rw [← hH1]
  have s1 : Same H H1 := by rw [hH1]; exact same_upd n1
  have e1 : H1 l1 = some (.lst ((lm (List.range M.length)).map V.int)) := by rw [hH1]; exact upd_same
  refine ⟨by show 0 ≤ sizeLine; decide, fun o1 m1 => ?_⟩
  have no : H o1 = none := s1.free m1
  have hne : l1 ≠ o1 := fun z => by rw [← z, e1] at m1; cases m1
  obtain ⟨H2, hH2⟩ : ∃ H2, H2 = upd H1 o1 (.lst []) := ⟨_, rfl⟩
  rw [← hH2]
  have s2 : Same H1 H2 := by rw [hH2]; exact same_upd m1
  have e2 : H2 o1 = some (.lst []) := by rw [hH2]; exact upd_same
  refine ⟨by show 2 ≤ sizeLine; decide, fun t2 m2 => ⟨t2, _, rfl, .inl (.inl upd_same), rfl, _, _, rfl, _, _, rfl, rfl, ?_⟩⟩
  have s3 : Same H2 (upd H2 t2 (.tup [.ref l1, .ref o1])) := same_upd m2
  refine ⟨fun m σ H' => ∃ (od lf : List Nat), σ = [some (.ref r), some (.ref l), some (.ref l1), some (.ref o1), none, none] ∧ SB r H H' ∧ RowAt K H' r ∧ H' l1 = some (.lst ((lm lf).map V.int)) ∧ H' o1 = some (.lst ((lm od).map V.int)) ∧ List.Perm (lf ++ od) (List.range M.length) ∧ m = lf.length,
    ⟨_, [], List.range M.length, rfl, .same (s1.trans (s2.trans s3)), hrow.same (s1.trans (s2.trans s3)), s3 _ _ (s2 _ _ e1), s3 _ _ e2, by rw [List.append_nil], rfl⟩, ?_⟩
  rintro m σ H3 ⟨od, lf, rfl, sb, hr3, el, eo, hp, rfl⟩
  have hlen : lf.length + od.length = M.length := by rw [← List.length_append, hp.length_eq, List.length_range]
  refine ⟨.ref l1, rfl, by decide, fun e ne => ?_⟩
  have sE : Same H3 (upd H3 e (.lst [])) := same_upd ne
  refine ⟨l1, e, lm lf, [], rfl, rfl, .inl (.inl (sE _ _ el)), .inl (.inl upd_same), _, rfl, ?_⟩
  by_cases hlf : lf = []
  · subst hlf
    rw [decide_eq_true (show lm [] = [] from rfl)]
    refine iteF ?_
    have hod : List.Perm od (List.range M.length) := hp
    have sb4 : SB r H (upd H3 e (.lst [])) := sb.trans (.same sE)
    have hr4 := hr3.same sE
    have hol : ((lm od).map V.int).length = M.length := by rw [List.length_map, lm_len, hod.length_eq, List.length_range]
    have hoM : ∀ i ∈ od, i < M.length := fun i hi => List.mem_range.mp (hod.mem_iff.mp hi)
    have eoE := sE _ _ eo
    obtain ⟨H4, hH4⟩ : ∃ H4, H4 = upd H3 e (.lst []) := ⟨_, rfl⟩
    rw [← hH4] at sb4 hr4 eoE ⊢
    obtain ⟨rs', eM', lM', h3'⟩ := LL.sb hrow ⟨rs, eM, lM, h3⟩ sb4
    refine ⟨.ref o1, rfl, o1, rfl, ⟨_, .inl (.inl eoE)⟩, lc_walk walk_list (by rw [hol]; exact small1000 (by omega)) (fun H' s => .inl (.inl (s _ _ eoE))) (fun D j y H => ∃ i t, od[j]? = some i ∧ y = .ref t ∧ t ≠ D ∧ IT H t (od.map fun j => (rowOf M i).getD j 0))
      (fun D j y H H' h sb => ?_) (fun D j x H5 H6 Kc hj s5 hD hy kc => ?_) (fun D H5 ys nD s5 e5 l5 r5 => ?_)⟩
    · obtain ⟨i, t, h1, h2, h3, h4⟩ := h
      exact ⟨i, t, h1, h2, h3, h4.sb sb h3⟩
    · obtain ⟨rfl, hx⟩ := hy
      obtain ⟨i, ei, rfl⟩ := lm_get hx
      have hi := hoM i (List.mem_of_getElem? ei)
      have eri : rs'[i]? = some (rs'[i]'(by omega)) := List.getElem?_eq_getElem (by omega)
      have eMi : M[i]? = some (M[i]'hi) := List.getElem?_eq_getElem hi
      have hrow_i := h3' i _ _ eri eMi
      obtain ⟨ri, hri⟩ : ∃ ri, ri = rs'[i]'(by omega) := ⟨_, rfl⟩
      rw [← hri] at eri hrow_i
      have hMil : (M[i]'hi).length = M.length := hrows _ (List.getElem_mem hi)
      have erow : rowOf M i = M[i]'hi := by
        unfold rowOf
        rw [List.getD_eq_getElem?_getD, eMi]
        rfl
      have eo6 := s5 _ _ eoE
      refine ⟨rfl, .ref o1, rfl, o1, rfl, ⟨_, .inl (.inl eo6)⟩, lc_walk walk_list (by rw [hol]; exact small1000 (by omega)) (fun H' s => .inl (.inl (s _ _ eo6))) (fun D' k y H => ∃ m : Nat, od[k]? = some m ∧ y = .int ((rowOf M i).getD m 0))
        (fun D' k y H H' h sb => h) (fun D' k x H7 H8 Kc' hk s7 hD' hy' kc' => ?_) (fun D' H7 zs nD' s7 e7 l7 r7 => ?_)⟩
      · obtain ⟨rfl, hx'⟩ := hy'
        obtain ⟨m, em, rfl⟩ := lm_get hx'
        have hm := hoM m (List.mem_of_getElem? em)
        refine ⟨rfl, .ref l, rfl, .int (i : Nat), rfl, l, _, _, _, rfl, rfl, .inl (.inl (s7 _ _ (s5 _ _ eM'))), atI_nat (j := i) (v := .ref ri) (by rw [List.getElem?_map, eri]; rfl), .int (m : Nat), rfl, ri, _, _, _, rfl, rfl, .inl (.inl (s7 _ _ (s5 _ _ hrow_i))), atI_nat (j := m) (int_get (List.getElem?_eq_getElem (by omega))), ?_⟩
        refine kc' _ _ (.refl _) ⟨m, em, ?_⟩
        rw [erow, List.getD_eq_getElem?_getD, List.getElem?_eq_getElem (by omega)]
        rfl
      · refine ⟨D', zs, rfl, .inl (.inl e7), fun t nt => ?_⟩
        obtain ⟨ys, hDD⟩ := hD
        refine kc _ _ (s7.trans (same_upd nt)) ⟨i, t, ei, rfl, ne_fresh (s7 _ _ hDD) nt, ?_⟩
        have ez : zs = (od.map fun j => (rowOf M i).getD j 0).map V.int := by
          apply List.ext_getElem?
          intro k
          rw [List.getElem?_map, List.getElem?_map]
          rcases Nat.lt_or_ge k zs.length with hk | hk
          · obtain ⟨m, em, ey⟩ := r7 k _ (List.getElem?_eq_getElem hk)
            rw [em, List.getElem?_eq_getElem hk, ey]
            rfl
          · have : od.length = zs.length := by rw [l7, hol, hod.length_eq, List.length_range]
            rw [List.getElem?_eq_none hk, List.getElem?_eq_none (by omega)]
            rfl
        rw [ez]
        exact .inl upd_same
    · refine ⟨D, ys, rfl, .inl (.inl e5), fun t nt => ?_⟩
      have s6 : Same H5 (upd H5 t (.tup ys)) := same_upd nt
      refine q _ t od (sb4.trans (.same (s5.trans s6))) (hr4.same (s5.trans s6)) hod (tt_of upd_same ?_ fun j y e => ?_)
      · show ys.length = (od.map _).length
        rw [l5, hol, List.length_map, hod.length_eq, List.length_range]
      · obtain ⟨i, t', h1, rfl, h2, h3⟩ := r5 j y e
        refine ⟨t', rfl, fun ns e => ?_⟩
        unfold mixedM at e
        rw [List.getElem?_map, h1] at e
        rw [← Option.some.inj e]
        exact h3.same s6
  · rw [decide_eq_false (fun z => hlf (lm_nil_iff.mp z))]
    refine iteT ⟨fun σ' H' => ∃ m', m' < lf.length ∧ ∃ (od lf : List Nat), σ' = [some (.ref r), some (.ref l), some (.ref l1), some (.ref o1), none, none] ∧ SB r H H' ∧ RowAt K H' r ∧ H' l1 = some (.lst ((lm lf).map V.int)) ∧ H' o1 = some (.lst ((lm od).map V.int)) ∧ List.Perm (lf ++ od) (List.range M.length) ∧ m' = lf.length, fun σ' H' h => h, ?_⟩
    have hl0 : 0 < lf.length := List.length_pos_iff.mpr hlf
    refine ⟨.ref o1, rfl, .inl ⟨rfl, _, .inl (.inl (sE _ _ eo))⟩, .ref l1, rfl, .inl ⟨rfl, _, .inl (.inl (sE _ _ el))⟩, .ref r, rfl, .ref l1, rfl, l1, _, rfl, .inl (.inl (.inl (sE _ _ el))), ?_⟩
    have hll : ((lm lf).map V.int).length = lf.length := by rw [List.length_map, lm_len]
    rw [hll]
    refine ⟨r, lf.length, rfl, hr3.same sE, by omega, by omega, fun t H4 sb4 hr4 ht => ?_⟩
    have el4 := ints_sb (hr3.same sE) (sE _ _ el) sb4
    have eo4 := ints_sb (hr3.same sE) (sE _ _ eo) sb4
    have hy : lf[t]? = some (lf[t]'ht) := List.getElem?_eq_getElem ht
    have hpe := erase_perm hy
    obtain ⟨y, hyy⟩ : ∃ y, y = lf[t]'ht := ⟨_, rfl⟩
    rw [← hyy] at hy hpe
    refine ⟨l1, _, (t : Nat), t, .int (y : Nat), rfl, rfl, el4, by omega, by omega, by rw [hll]; exact seqIx ht, ?_, ?_⟩
    · unfold lm
      rw [List.getElem?_map, List.getElem?_map, hy]
      rfl
    have eE : ((lm lf).map V.int).eraseIdx t = (lm (lf.eraseIdx t)).map V.int := by
      unfold lm
      rw [erase_map, erase_map]
    rw [eE]
    have hle := hpe.length_eq
    rw [List.length_cons] at hle
    refine ⟨o1, _, .int (y : Nat), rfl, rfl, by rw [upd_ne hne.symm]; exact eo4, ?_, ?_⟩
    · rw [List.length_map, lm_len]
      exact small1000 (by omega)
    have l1r : l1 ≠ r := ne_row hr3 el
    have o1r : o1 ≠ r := ne_row hr3 eo
    refine ⟨(lf.eraseIdx t).length, by omega, od ++ [y], lf.eraseIdx t, rfl, ((sb.trans ((SB.same sE).trans sb4)).own n1).own no, ?_, by rw [upd_ne hne, upd_same], ?_, ?_, rfl⟩
    · have q1 : RowAt K (upd H4 l1 (.lst ((lm (lf.eraseIdx t)).map V.int))) r := row_own hr4 el4
      have q2 := row_own (ns' := lm (od ++ [y])) q1 (show (upd H4 l1 (.lst ((lm (lf.eraseIdx t)).map V.int))) o1 = some (.lst ((lm od).map V.int)) by rw [upd_ne hne.symm]; exact eo4)
      rw [lm_append, List.map_append] at q2
      exact q2
    · rw [upd_same, lm_append, List.map_append]
      rfl
    · refine List.Perm.trans ?_ hp
      rw [← List.append_assoc]
      exact (List.perm_append_singleton _ _).trans (hpe.append_right od)
end
end K31

set_option Elab.async false
set_option linter.all false
set_option maxRecDepth 100000
set_option maxHeartbeats 4000000
namespace K31
open PySem PySem.Spec PyProof.Rows L2
/-! ### the walk, 19: the names of the halls -/
def letS : Nat → Str
  | 0 => "a"
  | 1 => "b"
  | 2 => "c"
  | 3 => "d"
  | 4 => "e"
  | 5 => "f"
  | _ => "g"
def NmAt (H : Hp) (v : V) (t : Nat × Nat) : Prop := ∃ a : Addr, v = .ref a ∧ H a = some (.tup [.str (letS t.1), .int (t.2 : Nat)])
def NLs (H : Hp) : List V → List (Nat × Nat) → Prop
  | [], [] => True
  | v :: xs, t :: ts => NmAt H v t ∧ NLs H xs ts
  | _, _ => False
theorem NLs.same {H H' : Hp} (s : Same H H') : ∀ {xs : List V} {ts : List (Nat × Nat)}, NLs H xs ts → NLs H' xs ts
  | [], [], _ => trivial
  | _ :: _, _ :: _, ⟨⟨a, e, h⟩, h2⟩ => ⟨⟨a, e, s _ _ h⟩, h2.same s⟩
  | [], _ :: _, h => h.elim
  | _ :: _, [], h => h.elim
theorem NLs.len {H : Hp} : ∀ {xs : List V} {ts : List (Nat × Nat)}, NLs H xs ts → xs.length = ts.length
  | [], [], _ => rfl
  | _ :: _, _ :: _, ⟨_, h2⟩ => by rw [List.length_cons, List.length_cons, h2.len]
  | [], _ :: _, h => h.elim
  | _ :: _, [], h => h.elim
theorem NLs.app {H : Hp} {ys : List V} {us : List (Nat × Nat)} (hy : NLs H ys us) : ∀ {xs : List V} {ts : List (Nat × Nat)}, NLs H xs ts → NLs H (xs ++ ys) (ts ++ us)
  | [], [], _ => hy
  | _ :: _, _ :: _, ⟨h1, h2⟩ => ⟨h1, NLs.app hy h2⟩
  | [], _ :: _, h => h.elim
  | _ :: _, [], h => h.elim
theorem NLs.get {H : Hp} : ∀ {xs : List V} {ts : List (Nat × Nat)} {i : Nat} {v : V}, NLs H xs ts → xs[i]? = some v → ∃ t ∈ ts, NmAt H v t
  | v :: _, t :: _, 0, w, ⟨h1, _⟩, e => by
    rw [List.getElem?_cons_zero] at e
    rw [← Option.some.inj e]
    exact ⟨t, List.mem_cons_self, h1⟩
  | _ :: xs, t :: ts, i + 1, w, ⟨_, h2⟩, e => by
    rw [List.getElem?_cons_succ] at e
    obtain ⟨u, hu, h⟩ := h2.get e
    exact ⟨u, List.mem_cons_of_mem _ hu, h⟩
  | [], _, _, _, _, e => by simp at e
  | _ :: _, [], _, _, h, _ => h.elim
section
variable {P : Program} {w : World} {K : PySem.W.Frag} {mg : Str → Option Value} {base : Heap}
abbrev rInt1 : List V → Hp → VK → Prop := fun xs H Q => (∃ i, xs = [V.int i] ∧ Q (V.int i) H) ∨ ∃ k, xs = [V.bl k] ∧ Q (V.int (if k = true then 1 else 0)) H
theorem rd_one {σ : L2.St} {H : Hp} {Q : VK} {m : Nat} (c : Nat) {s : Str} (hs : letS c = s) (h2 : σ[2]? = some (some (.int (m : Nat)))) {a : Addr} {xs : List V} {ts : List (Nat × Nat)} (ha : H a = some (.lst xs)) (hx : NLs H xs ts) (hxl : ts.length ≤ 100)
    (q : ∀ H' l ys, Same H H' → H' l = some (.lst ys) → NLs H' ys (ts ++ [(c, m)]) → Q (.ref l) H') : tLst (tCons (tTup (tCons (tC (.str s)) (tCons (tVar 2) tNil))) tNil) σ H fun y H2 => rCat (.ref a) y H2 Q := by
  refine ⟨.int (m : Nat), h2, by show 2 ≤ sizeLine; decide, fun t nt => ⟨by show 1 ≤ sizeLine; decide, fun l nl => ?_⟩⟩
  have s1 : Same H (upd H t (.tup [.str s, .int (m : Nat)])) := same_upd nt
  have s2 : Same H (upd (upd H t (.tup [.str s, .int (m : Nat)])) l (.lst [.ref t])) := s1.trans (same_upd nl)
  refine ⟨a, l, _, _, rfl, rfl, s2 _ _ ha, upd_same, ?_, fun p np => ?_⟩
  · rw [hx.len]
    show ts.length + 1 ≤ sizeLine
    exact Nat.le_of_lt (small1000 (by omega))
  · have s3 := fun o => s2.trans (same_upd (o := o) np)
    refine q _ p _ (s3 _) upd_same ((show NLs _ [V.ref t] [(c, m)] from ⟨⟨t, rfl, ?_⟩, trivial⟩).app (hx.same (s3 _)))
    refine same_upd np _ _ (same_upd nl _ _ ?_)
    rw [upd_same, hs]
theorem rd_piece {σ : L2.St} {H : Hp} {Q : VK} {m : Nat} (c : Nat) {s : Str} (b : Bool) {te : TE} (hs : letS c = s) (h2 : σ[2]? = some (some (.int (m : Nat)))) (hte : ∀ H1 (Q' : VK), Q' (.bl b) H1 → te σ H1 Q') {a : Addr} {xs : List V} {ts : List (Nat × Nat)} (ha : H a = some (.lst xs)) (hx : NLs H xs ts) (hxl : ts.length ≤ 100)
    (q : ∀ H' l ys, Same H H' → H' l = some (.lst ys) → NLs H' ys (ts ++ rep (c, m) b) → Q (.ref l) H') : tOp rRep (tLst (tCons (tTup (tCons (tC (.str s)) (tCons (tVar 2) tNil))) tNil)) (tCB rInt1 (tCons te tNil)) σ H fun y H2 => rCat (.ref a) y H2 Q := by
  refine ⟨.int (m : Nat), h2, by show 2 ≤ sizeLine; decide, fun t nt => ⟨by show 1 ≤ sizeLine; decide, fun l nl => hte _ _ (.inr ⟨b, rfl, ?_⟩)⟩⟩
  have s1 : Same H (upd H t (.tup [.str s, .int (m : Nat)])) := same_upd nt
  have s2 : Same H (upd (upd H t (.tup [.str s, .int (m : Nat)])) l (.lst [.ref t])) := s1.trans (same_upd nl)
  cases b with
  | true =>
    refine ⟨l, _, _, rfl, rfl, upd_same, by decide, by decide, (by show 1 ≤ sizeLine; decide), fun l' nl' => ?_⟩
    have s3 := fun o => s2.trans (same_upd (o := o) nl')
    refine ⟨a, l', _, _, rfl, rfl, s3 _ _ _ ha, upd_same, ?_, fun p np => ?_⟩
    · rw [hx.len]
      show ts.length + 1 ≤ sizeLine
      exact Nat.le_of_lt (small1000 (by omega))
    · have s4 := fun o => (s3 _).trans (same_upd (o := o) np)
      refine q _ p _ (s4 _) upd_same ((show NLs _ [V.ref t] [(c, m)] from ⟨⟨t, rfl, ?_⟩, trivial⟩).app (hx.same (s4 _)))
      refine same_upd np _ _ (same_upd nl' _ _ (same_upd nl _ _ ?_))
      rw [upd_same, hs]
  | false =>
    refine ⟨l, _, _, rfl, rfl, upd_same, by decide, by decide, (by show 0 ≤ sizeLine; decide), fun l' nl' => ?_⟩
    have s3 := fun o => s2.trans (same_upd (o := o) nl')
    refine ⟨a, l', _, _, rfl, rfl, s3 _ _ _ ha, upd_same, ?_, fun p np => ?_⟩
    · rw [hx.len]
      show ts.length + 0 ≤ sizeLine
      exact Nat.le_of_lt (small1000 (by omega))
    · have s4 := fun o => (s3 _).trans (same_upd (o := o) np)
      exact q _ p _ (s4 _) upd_same ((show NLs _ ([] : List V) [] from trivial).app (hx.same (s4 _)))
def spNames : Sp := fun vs H Q _ => ∃ n : Nat, vs = [.int (n : Nat)] ∧ n ≤ 5 ∧ ∀ H' l xs, Same H H' → H' l = some (.lst xs) → NLs H' xs (namesOf n) → Q (.ref l) H'
abbrev n_names : List Str := ["_law_most", "_law_found", "_law_many"]
theorem sc_names : FnScope n_names ["_law_most"] (defScope s_law_names) := ⟨rfl, rfl, rfl, by decide +kernel, rfl, by decide +kernel, by decide +kernel⟩
theorem ok_names (E : Ev K mg) (D : Dd K mg "_law_names" s_law_names) : Ca P w K mg base 1 "_law_names" ["_law_most"] spNames := by
  refine mk_ca (k := 0) D sc_names (fun vs H Q E h => ?_) (fun _ _ _ _ _ _ us hl => match us, hl with | [_], _ => rfl) (fun f cd A outer s H vs Q E' hr h => ?_)
  · obtain ⟨n, rfl, _⟩ := h
    rfl
  obtain ⟨n, rfl, hn, q⟩ := h
  have nd := sc_names.nd
  refine ⟨_, pss_cons (ps_set (i := 1) nd rfl (.inl rfl) (pe_lst pa_nil))
    (pss_cons (ps_forW rfl (pi_range2 (by rfl) E.rng (pa_cons pe_int (pa_cons (pe_op op_add (pv 0) pe_int) pa_nil))) (pg_name (i := 2) nd rfl (.inl rfl))
      (pss_cons (ps_set (i := 1) nd rfl (.inl rfl) (pe_op op_cat (pe_op op_cat (pe_op op_cat (pv 1) (pe_lst (pa_cons (pe_tup (pa_cons pe_str (pa_cons (pv 2) pa_nil))) pa_nil)))
          (pe_op op_rep (pe_lst (pa_cons (pe_tup (pa_cons pe_str (pa_cons (pv 2) pa_nil))) pa_nil)) (pe_callTy call_int1 (by rfl) E.int boot_int (pa_cons (pe_cmpR op_gt (pv 2) pe_int (nomark _)) pa_nil))))
          (pe_op op_rep (pe_lst (pa_cons (pe_tup (pa_cons pe_str (pa_cons (pv 2) pa_nil))) pa_nil)) (pe_callTy call_int1 (by rfl) E.int boot_int (pa_cons (pe_cmpR op_gt (pv 2) pe_int (nomark _)) pa_nil)))))
      (pss_cons (ps_set (i := 1) nd rfl (.inl rfl) (pe_op op_cat (pe_op op_cat (pv 1)
          (pe_op op_rep (pe_lst (pa_cons (pe_tup (pa_cons pe_str (pa_cons (pv 2) pa_nil))) pa_nil)) (pe_callTy call_int1 (by rfl) E.int boot_int (pa_cons (pe_cmpR op_gt (pv 2) pe_int (nomark _)) pa_nil))))
          (pe_op op_rep (pe_lst (pa_cons (pe_tup (pa_cons pe_str (pa_cons (pv 2) pa_nil))) pa_nil)) (pe_callTy call_int1 (by rfl) E.int boot_int (pa_cons (pe_cmpR op_gt (pv 2) pe_int (nomark _)) pa_nil)))))
      (pss_one (ps_set (i := 1) nd rfl (.inl rfl) (pe_op op_cat (pe_op op_cat (pv 1)
          (pe_op op_rep (pe_lst (pa_cons (pe_tup (pa_cons pe_str (pa_cons (pv 2) pa_nil))) pa_nil)) (pe_callTy call_int1 (by rfl) E.int boot_int (pa_cons (pe_cmpR op_eq (pv 2) pe_int (nomark _)) pa_nil))))
          (pe_op op_rep (pe_lst (pa_cons (pe_tup (pa_cons pe_str (pa_cons (pv 2) pa_nil))) pa_nil)) (pe_callTy call_int1 (by rfl) E.int boot_int (pa_cons (pe_cmpR op_eq (pv 2) pe_int (nomark _)) pa_nil)))))))))
    (pss_one (ps_ret (pv 1)))), ?_⟩
  refine ⟨by show 0 ≤ sizeLine; decide, fun l0 n0 => ?_⟩
  refine ⟨.int (n : Nat), rfl, n, 1, rfl, rfl, 1, (n : Int) + 1, rfl, ⟨by omega, by omega, by omega, by omega⟩, ?_⟩
  rw [show ((n : Int) + 1 - 1).toNat = n by omega]
  refine for_walk walk_rng (fun i σ H' => ∃ l xs y2, σ = [some (.int (n : Nat)), some (.ref l), y2] ∧ Same H H' ∧ H' l = some (.lst xs) ∧ NLs H' xs (namesOf i)) ⟨l0, [], none, rfl, same_upd n0, upd_same, trivial⟩ (fun _ _ _ _ _ => trivial) (fun i v σ H1 H2 hi h hy => ?_) (fun σ H1 h => ?_)
  · obtain ⟨l, xs, y2, rfl, s1, el, hx⟩ := h
    obtain ⟨rfl, rfl⟩ := hy
    have e1 : (1 + (i : Int)) = ((i + 1 : Nat) : Int) := by omega
    rw [e1]
    have hlen : (namesOf i).length ≤ 50 := by
      have : ∀ i, i < 5 → (namesOf i).length ≤ 50 := by decide
      exact this i (by omega)
    obtain ⟨m, hm⟩ : ∃ m, m = i + 1 := ⟨_, rfl⟩
    rw [← hm]
    have g1 : ∀ k : Nat, decide ((k : Int) < (m : Int)) = decide (m > k) := fun k => by
      rw [decide_eq_decide]
      omega
    have g2 : ∀ k : Nat, decide (V.int (m : Nat) = V.int (k : Nat)) = decide (m = k) := fun k => by
      rw [decide_eq_decide]
      exact ⟨fun z => by have := V.int.inj z; omega, fun z => by rw [z]⟩
    have gb : ∀ (k : Nat) (Q' : VK) (H1 : Hp), Q' (.bl (decide (m > k))) H1 → Q' (.bl (decide ((k : Int) < (m : Int)))) H1 := fun k Q' H1 z => by
      rw [g1 k]
      exact z
    have gc : ∀ (k : Nat) (Q' : VK) (H1 : Hp), Q' (.bl (decide (m = k))) H1 → Q' (.bl (decide (V.int (m : Nat) = V.int (k : Nat)))) H1 := fun k Q' H1 z => by
      rw [g2 k]
      exact z
    have hr1 : ∀ (t : Nat × Nat) b, (rep t b).length ≤ 1 := fun t b => by cases b <;> simp [rep]
    refine ⟨.ref l, rfl, rd_one 0 rfl rfl el hx (by omega) fun Ha la xa sa ea za => ?_⟩
    refine rd_piece 1 (decide (m > 1)) rfl rfl (fun H1 Q' z => ⟨.int (m : Nat), rfl, m, 1, rfl, rfl, gb 1 Q' H1 z⟩) ea za (by simp; omega) fun Hb lb xb sb eb zb => ?_
    have b1 := hr1 (1, m) (decide (m > 1))
    refine rd_piece 2 (decide (m > 2)) rfl rfl (fun H1 Q' z => ⟨.int (m : Nat), rfl, m, 2, rfl, rfl, gb 2 Q' H1 z⟩) eb zb (by simp only [List.length_append, List.length_singleton]; omega) fun Hc lc xc sc ec zc => ?_
    have b2 := hr1 (2, m) (decide (m > 2))
    refine ⟨.ref lc, rfl, ?_⟩
    refine rd_piece 3 (decide (m > 3)) rfl rfl (fun H1 Q' z => ⟨.int (m : Nat), rfl, m, 3, rfl, rfl, gb 3 Q' H1 z⟩) ec zc (by simp only [List.length_append, List.length_singleton]; omega) fun Hd ld xd sd ed zd => ?_
    have b3 := hr1 (3, m) (decide (m > 3))
    refine rd_piece 4 (decide (m > 5)) rfl rfl (fun H1 Q' z => ⟨.int (m : Nat), rfl, m, 5, rfl, rfl, gb 5 Q' H1 z⟩) ed zd (by simp only [List.length_append, List.length_singleton]; omega) fun He le xe se ee ze => ?_
    have b4 := hr1 (4, m) (decide (m > 5))
    refine ⟨.ref le, rfl, ?_⟩
    refine rd_piece 5 (decide (m = 4)) rfl rfl (fun H1 Q' z => ⟨.int (m : Nat), rfl, rfl, gc 4 Q' H1 z⟩) ee ze (by simp only [List.length_append, List.length_singleton]; omega) fun Hf lf xf sf ef zf => ?_
    have b5 := hr1 (5, m) (decide (m = 4))
    refine rd_piece 6 (decide (m = 2)) rfl rfl (fun H1 Q' z => ⟨.int (m : Nat), rfl, rfl, gc 2 Q' H1 z⟩) ef zf (by simp only [List.length_append, List.length_singleton]; omega) fun Hg lg xg sg eg zg => ?_
    refine ⟨lg, xg, _, rfl, s1.trans (sa.trans (sb.trans (sc.trans (sd.trans (se.trans (sf.trans sg)))))), eg, ?_⟩
    have en : namesOf (i + 1) = namesOf i ++ namesAt (i + 1) := rfl
    rw [hm] at zg ⊢
    rw [en]
    unfold namesAt
    simp only [List.append_assoc] at zg ⊢
    exact zg
  · obtain ⟨l, xs, y2, rfl, s1, el, hx⟩ := h
    exact ⟨_, rfl, q _ l xs s1 el hx⟩
end
end K31

set_option Elab.async false
set_option linter.all false
set_option maxRecDepth 100000
set_option maxHeartbeats 4000000
namespace K31
open PySem PySem.Spec PyProof.Rows L2
/-! ### the walk, 20: a named hall -/
/-- a list comprehension without tests, told by its whole list -/
theorem lc_walkA {P0 : Program} {X : Nat → V → Hp → Hp → Prop} {J : It} {n : Nat} {P : Hp → Prop} {g : TG} {te : TE} {vs : List Nat} {σ : L2.St} {H1 : Hp} {Q : VK} (Wk : Walk J n P X) (hn : n < sizeLine) (hP : ∀ H, Same H1 H → P H) (Pv : Addr → List V → Hp → Prop)
    (h0 : ∀ D, H1 D = none → Pv D [] (upd H1 D (.lst [])))
    (hs : ∀ D acc x H H' (Kc : VK), acc.length < n → Same H1 H → H D = some (.lst acc) → Pv D acc H → X acc.length x H H' → (∀ y H4, Same H H4 → Pv D (acc ++ [y]) (upd H4 D (.lst (acc ++ [y]))) → Kc y H4) → g x (wipe σ vs) H' fun σ2 H2 => wipe σ2 vs = wipe σ vs ∧ te σ2 H2 Kc)
    (hd : ∀ D H ys, H1 D = none → Same H1 H → H D = some (.lst ys) → ys.length = n → Pv D ys H → Q (.ref D) H) : LcB J g te vs σ H1 Q := by
  intro D hD
  let Pw : Nat → Hp → Prop := fun i H => Same H1 H ∧ ∃ ys, H D = some (.lst ys) ∧ ys.length = i ∧ Pv D ys H
  refine ⟨fun i m H => m = n - i ∧ i ≤ n ∧ Pw i H, ⟨n, rfl, Nat.zero_le _, same_upd hD, [], upd_same, rfl, h0 D hD⟩, ?_⟩
  rintro i m H ⟨rfl, hi, s, ys, e, l, r⟩
  have hp := hP H s
  by_cases hlt : i < n
  · refine .inr ⟨Wk.go i H hlt hp, Pw (i + 1), fun H' p' => ⟨n - (i + 1), by omega, rfl, hlt, p'⟩, fun x H' hy => hs D ys x H H' _ (by omega) s e r (by rw [l]; exact Wk.yld i H x H' hlt hp hy) fun y H4 s4 r4 => ?_⟩
    refine ⟨ys, s4 _ _ e, by omega, fun b o q => ?_, ys ++ [y], upd_same, by simp [l], r4⟩
    rw [upd_ne (ne_of_none q hD)]
    exact s4 _ _ (s _ _ q)
  · have ei : i = n := by omega
    subst ei
    exact .inl ⟨Wk.stop H hp, hd D H ys hD s e l r⟩
/-- a list of lists of ints of its own -/
def LD (H0 H : Hp) (l : Addr) (M : Mat) : Prop := Same H0 H ∧ ∃ rs : List Addr, H l = some (.lst (rs.map V.ref)) ∧ rs.length = M.length ∧ (l :: rs).Nodup ∧ (∀ r ∈ rs, H0 r = none) ∧ ∀ (i : Nat) (r : Addr) (ns : List Int), rs[i]? = some r → M[i]? = some ns → H r = some (.lst (ns.map V.int))
theorem LD.ll {H0 H : Hp} {l : Addr} {M : Mat} (h : LD H0 H l M) : LL H l M := by
  obtain ⟨_, rs, h1, h2, _, _, h5⟩ := h
  exact ⟨rs, h1, h2, h5⟩
theorem LD.same {H0 H H' : Hp} {l : Addr} {M : Mat} (s : Same H H') (h : LD H0 H l M) : LD H0 H' l M := by
  obtain ⟨s0, rs, h1, h2, h3, h4, h5⟩ := h
  exact ⟨s0.trans s, rs, s _ _ h1, h2, h3, h4, fun i r ns e1 e2 => s _ _ (h5 i r ns e1 e2)⟩
theorem nodup_idx {α : Type} : ∀ {xs : List α} {i j : Nat} {a : α}, xs.Nodup → xs[i]? = some a → xs[j]? = some a → i = j
  | [], _, _, _, _, h, _ => by simp at h
  | _ :: _, 0, 0, _, _, _, _ => rfl
  | x :: xs, 0, j + 1, a, n, h, h2 => by
    rw [List.getElem?_cons_zero] at h
    rw [List.getElem?_cons_succ] at h2
    rw [← Option.some.inj h] at h2
    exact absurd (List.mem_of_getElem? h2) (List.nodup_cons.mp n).1
  | x :: xs, i + 1, 0, a, n, h, h2 => by
    rw [List.getElem?_cons_zero] at h2
    rw [List.getElem?_cons_succ] at h
    rw [← Option.some.inj h2] at h
    exact absurd (List.mem_of_getElem? h) (List.nodup_cons.mp n).1
  | x :: xs, i + 1, j + 1, a, n, h, h2 => by
    rw [List.getElem?_cons_succ] at h h2
    rw [nodup_idx (List.nodup_cons.mp n).2 h h2]
theorem LD.set {H0 H : Hp} {l : Addr} {M : Mat} (h : LD H0 H l M) {i j : Nat} {x : Int} (hi : i < M.length) (hj : j < (rowOf M i).length) : ∃ (r : Addr) (rs : List Addr), H l = some (.lst (rs.map V.ref)) ∧ rs[i]? = some r ∧ H r = some (.lst ((rowOf M i).map V.int)) ∧ LD H0 (upd H r (.lst (((rowOf M i).map V.int).set j (.int x)))) l (setM M i j x) := by
  obtain ⟨s0, rs, h1, h2, h3, h4, h5⟩ := h
  have e1 : rs[i]? = some (rs[i]'(by omega)) := List.getElem?_eq_getElem (by omega)
  obtain ⟨r, hr⟩ : ∃ r, r = rs[i]'(by omega) := ⟨_, rfl⟩
  rw [← hr] at e1
  have eM : M[i]? = some (rowOf M i) := by
    unfold rowOf
    rw [List.getD_eq_getElem?_getD, List.getElem?_eq_getElem hi]
    rfl
  have er := h5 i r _ e1 eM
  have hm := List.mem_of_getElem? e1
  have lr : l ≠ r := fun z => (List.nodup_cons.mp h3).1 (by rw [z]; exact hm)
  refine ⟨r, rs, h1, e1, er, fun b o q => ?_, rs, by rw [upd_ne lr]; exact h1, by unfold setM; rw [List.length_set]; exact h2, h3, h4, fun k r' ns e2 e3 => ?_⟩
  · rw [upd_ne (ne_of_none q (h4 r hm))]
    exact s0 _ _ q
  · unfold setM at e3
    by_cases hk : k = i
    · subst hk
      have : r' = r := Option.some.inj (e2.symm.trans e1)
      subst this
      rw [List.getElem?_set_self (by omega)] at e3
      rw [upd_same, ← Option.some.inj e3, List.map_set]
    · rw [List.getElem?_set_ne (fun z => hk z.symm)] at e3
      have hne : r' ≠ r := fun z => hk (nodup_idx (List.nodup_cons.mp h3).2 e2 (by rw [z]; exact e1))
      rw [upd_ne hne]
      exact h5 k r' ns e2 e3
theorem setM_rows {M : Mat} {n i j : Nat} {x : Int} (hM : M.length = n) (hr : ∀ k, k < n → (rowOf M k).length = n) (hi : i < n) : (setM M i j x).length = n ∧ ∀ k, k < n → (rowOf (setM M i j x) k).length = n := by
  refine ⟨by unfold setM; rw [List.length_set]; exact hM, fun k hk => ?_⟩
  unfold setM
  by_cases hki : k = i
  · subst hki
    have : rowOf (M.set k ((rowOf M k).set j x)) k = (rowOf M k).set j x := by
      unfold rowOf
      rw [List.getD_eq_getElem?_getD, List.getElem?_set_self (by omega)]
      rfl
    rw [this, List.length_set]
    exact hr k hk
  · have : rowOf (M.set i ((rowOf M i).set j x)) k = rowOf M k := by
      unfold rowOf
      rw [List.getD_eq_getElem?_getD, List.getElem?_set_ne (fun z => hki z.symm), ← List.getD_eq_getElem?_getD]
    rw [this]
    exact hr k hk
theorem mate_lt {c m k : Nat} (h4 : c ≠ 4) (h3 : c = 3 → 4 ≤ m) (hk : 1 ≤ k) (hkm : k < m) : mateOf c m k < m := by
  unfold mateOf
  by_cases h : (c = 3 ∨ c = 4) ∧ k = m - 1
  · rw [if_pos h]
    by_cases hc : c = 3
    · rw [if_pos hc]
      omega
    · exact absurd h.1 (by omega)
  · rw [if_neg h]
    omega
theorem chain_rows {c m : Nat} (h4 : c ≠ 4) (h3 : c = 3 → 4 ≤ m) : ∀ k, k < m → (chainM c m k).length = m ∧ ∀ i, i < m → (rowOf (chainM c m k) i).length = m
  | 0, _ => by
    refine ⟨by unfold chainM; rw [List.length_replicate], fun i hi => ?_⟩
    unfold chainM rowOf
    rw [List.getD_eq_getElem?_getD, List.getElem?_replicate, if_pos hi]
    show (zeros m).length = m
    unfold zeros
    rw [List.length_replicate]
  | k + 1, hk => by
    obtain ⟨h1, h2⟩ := chain_rows h4 h3 k (by omega)
    have hm := mate_lt h4 h3 (by omega : 1 ≤ k + 1) hk
    obtain ⟨h5, h6⟩ := setM_rows (x := 1) (j := mateOf c m (k + 1)) h1 h2 hk
    exact setM_rows (x := 1) (j := k + 1) h5 h6 hm
theorem ixNat {n j : Nat} (hj : j < n) : ixN n (j : Int) = some j := by
  unfold ixN
  rw [if_pos (by omega), if_pos (by omega)]
  simp
theorem name_facts : ∀ t ∈ namesOf 5, 1 ≤ t.2 ∧ t.2 ≤ 5 ∧ t.1 ≠ 4 ∧ t.1 ≤ 6 ∧ (t.1 = 1 → 2 ≤ t.2) ∧ (t.1 = 2 → 3 ≤ t.2) ∧ (t.1 = 3 → 4 ≤ t.2) ∧ (t.1 = 5 → t.2 = 4) ∧ (t.1 = 6 → t.2 = 2) := by decide
theorem let_in : ∀ c, c ≤ 6 → inV (.str (letS c)) [.str "d", .str "e"] = decide (c = 3 ∨ c = 4)
  | 0, _ => by decide +kernel
  | 1, _ => by decide +kernel
  | 2, _ => by decide +kernel
  | 3, _ => by decide +kernel
  | 4, _ => by decide +kernel
  | 5, _ => by decide +kernel
  | 6, _ => by decide +kernel
  | n + 7, h => absurd h (by omega)
theorem let_d : ∀ c, c ≤ 6 → decide (V.str (letS c) = V.str "d") = decide (c = 3)
  | 0, _ => by decide +kernel
  | 1, _ => by decide +kernel
  | 2, _ => by decide +kernel
  | 3, _ => by decide +kernel
  | 4, _ => by decide +kernel
  | 5, _ => by decide +kernel
  | 6, _ => by decide +kernel
  | n + 7, h => absurd h (by omega)
theorem let_spot (a b c d : V) : ∀ x, x ≤ 6 → valV (mergeK [] [((Sum.inr "b" : L2.Key), a), (Sum.inr "c", b), (Sum.inr "f", c), (Sum.inr "g", d)]) (Sum.inr (letS x)) = (if x = 1 then some a else if x = 2 then some b else if x = 5 then some c else if x = 6 then some d else none)
  | 0, _ => by rfl
  | 1, _ => by rfl
  | 2, _ => by rfl
  | 3, _ => by rfl
  | 4, _ => by rfl
  | 5, _ => by rfl
  | 6, _ => by rfl
  | n + 7, h => absurd h (by omega)
section
variable {P : Program} {w : World} {K : PySem.W.Frag} {mg : Str → Option Value} {base : Heap}
def spNamed : Sp := fun vs H Q _ => ∃ c m : Nat, vs = [.str (letS c), .int (m : Nat)] ∧ (c, m) ∈ namesOf 5 ∧ ∀ H' l, Same H H' → LL H' l (named c m) → Q (.ref l) H'
abbrev n_named : List Str := ["_law_letter", "_law_many", "_law_lamp", "_law_found", "_law_mate", "_law_spot", "_law_one", "_law_other", "_law_more"]
theorem sc_named : FnScope n_named ["_law_letter", "_law_many"] (defScope s_law_named) := ⟨rfl, rfl, rfl, by decide +kernel, rfl, by decide +kernel, by decide +kernel⟩
theorem ok_named (E : Ev K mg) (D : Dd K mg "_law_named" s_law_named) : Ca P w K mg base 1 "_law_named" ["_law_letter", "_law_many"] spNamed := by
  refine mk_ca (k := 0) D sc_named (fun vs H Q E h => ?_) (fun _ _ _ _ _ _ us hl => match us, hl with | [_, _], _ => rfl) (fun f cd A outer s H vs Q E' hr h => ?_)
  · obtain ⟨c, m, rfl, _⟩ := h
    rfl
  obtain ⟨c, m, rfl, hcm, q⟩ := h
  have nd := sc_named.nd
  have hu := hu_of hr
  refine ⟨_, pss_cons (ps_setLcW (i := 3) (own := [("_law_lamp", 2)]) (g := gName 2) (te := tOp rRep (tLst (tCons (tC (.int 0)) tNil)) (tVar 1)) rfl nd rfl rfl (sw_true rfl rfl rfl (by decide +kernel)) (pi_range1 (by rfl) E.rng (pa_cons (pv 1) pa_nil)) (blkOk_by (N := n_named) (sc := defScope s_law_named) (by decide +kernel))
        (fun _ _ _ _ _ => pg_name (i := 2) nd rfl (.inl rfl)) (fun _ _ _ _ _ => pe_op op_rep (pe_lst (pa_cons pe_int pa_nil)) (pv 1)))
    (pss_cons (ps_forW rfl (pi_range2 (by rfl) E.rng (pa_cons pe_int (pa_cons (pv 1) pa_nil))) (pg_name (i := 2) nd rfl (.inl rfl))
      (pss_cons (ps_set (i := 4) nd rfl (.inl rfl) (pe_op op_sub (pv 2) pe_int))
      (pss_cons (ps_if ((pw_and (pt_cmpR op_in_seq (pv 0) (pe_lst (pa_cons pe_str (pa_cons pe_str pa_nil))) (by rfl)) (pw_and1 (pt_cmpR op_eq (pv 2) (pe_op op_sub (pv 1) pe_int) (nomark _)))).pt)
          (pss_one (ps_set (i := 4) nd rfl (.inl rfl) (pe_ifExp (pt_cmpR op_eq (pv 0) pe_str (nomark _)) (pe_op op_sub (pv 1) pe_int) pe_int))) pss_nil)
      (pss_cons (ps_asg pe_int (pg_sub (pe_ix ix_list (pv 3) (pv 2) (fun _ _ => rfl)) (pv 4) set_list))
      (pss_one (ps_asg pe_int (pg_sub (pe_ix ix_list (pv 3) (pv 4) (fun _ _ => rfl)) (pv 2) set_list)))))))
    (pss_cons (ps_set (i := 5) nd rfl (.inl rfl) (pe_disp (pps_cons pe_str (pe_tup (pa_cons (pe_op op_sub (pv 1) pe_int) (pa_cons (pe_op op_sub (pv 1) pe_int) (pa_cons pe_int pa_nil))))
        (pps_cons pe_str (pe_tup (pa_cons (pe_op op_sub (pv 1) pe_int) (pa_cons (pe_op op_sub (pv 1) pe_int) (pa_cons pe_int pa_nil))))
        (pps_cons pe_str (pe_tup (pa_cons pe_int (pa_cons pe_int (pa_cons pe_int pa_nil))))
        (pps_cons pe_str (pe_tup (pa_cons pe_int (pa_cons pe_int (pa_cons pe_int pa_nil)))) pps_nil)))) rfl rfl (by simp) (by decide)))
    (pss_cons (ps_if (pt_cmp (pc_din hu (pv 0) (pv 5)))
        (pss_cons (ps_asg (pe_dget hu (pv 5) (pv 0) (fun _ _ => rfl)) (pg_tup rfl (pgs_cons (pg_name (i := 6) nd rfl (.inl rfl)) (pgs_cons (pg_name (i := 7) nd rfl (.inl rfl)) (pgs_cons (pg_name (i := 8) nd rfl (.inl rfl)) pgs_nil)))))
        (pss_one (ps_asg (pv 8) (pg_sub (pe_ix ix_list (pv 3) (pv 6) (fun _ _ => rfl)) (pv 7) set_list)))) pss_nil)
    (pss_one (ps_ret (pv 3)))))), ?_⟩
  obtain ⟨hm1, hm5, h4, hc6, hb2, hc3, hd4, hf4, hg2⟩ := name_facts _ hcm
  dsimp only at hm1 hm5 h4 hc6 hb2 hc3 hd4 hf4 hg2
  refine ⟨.int (m : Nat), rfl, (m : Nat), rfl, by omega, by omega, ?_⟩
  refine lc_walkA (P0 := P) walk_rng (small1000 (by omega)) (fun _ _ => trivial) (fun D acc H' => ∃ rs, acc = rs.map V.ref ∧ (D :: rs).Nodup ∧ (∀ r ∈ rs, H r = none ∧ H' r = some (.lst ((zeros m).map V.int)))) (fun D hD => ⟨[], rfl, by simp, fun _ h => nomatch h⟩) (fun D acc x H2 H3 Kc hj s2 hD hv hy kc => ?_) (fun D H2 ys nD s2 e2 l2 r2 => ?_)
  · obtain ⟨rfl, rfl⟩ := hy
    obtain ⟨rs, rfl, hn, hz⟩ := hv
    refine ⟨rfl, by show 1 ≤ sizeLine; decide, fun l0 n0 => ⟨.int (m : Nat), rfl, l0, (m : Nat), _, rfl, rfl, upd_same, by omega, by omega, ?_, fun l1 n1 => ?_⟩⟩
    · show 1 * ((m : Nat) : Int).toNat ≤ sizeLine
      have := small1000 (show m ≤ 1000 by omega)
      omega
    · have sL : Same H3 (upd H3 l0 (.lst [.int 0])) := same_upd n0
      have sM := fun o => sL.trans (same_upd (o := o) n1)
      have hDl : D ≠ l1 := (ne_fresh (sL _ _ hD) n1).symm
      refine kc _ _ (sM _) ⟨rs ++ [l1], by rw [List.map_append]; rfl, ?_, fun r hr => ?_⟩
      · rw [← List.cons_append]
        refine List.nodup_append.mpr ⟨hn, by simp, fun a ha b hb => ?_⟩
        rw [List.mem_singleton.mp hb]
        rcases List.mem_cons.mp ha with rfl | ha
        · exact hDl
        · exact (ne_fresh (sL _ _ (hz a ha).2) n1).symm
      · rcases List.mem_append.mp hr with hr | hr
        · refine ⟨(hz r hr).1, ?_⟩
          rw [upd_ne (fun z => (List.nodup_cons.mp hn).1 (by rw [← z]; exact hr))]
          exact sM _ _ _ (hz r hr).2
        · rw [List.mem_singleton.mp hr]
          refine ⟨(s2.trans sL).free n1, ?_⟩
          rw [upd_ne hDl.symm, upd_same, Int.toNat_natCast, flat_rep]
          congr 2
          exact rep_int _ _
  obtain ⟨rs, rfl, hn, hz⟩ := r2
  rw [List.length_map] at l2
  have L0 : LD H H2 D (chainM c m 0) := by
    refine ⟨s2, rs, e2, ?_, hn, fun r hr => (hz r hr).1, fun i r ns e3 e4 => ?_⟩
    · rw [l2]
      unfold chainM
      rw [List.length_replicate]
      omega
    · rw [(hz r (List.mem_of_getElem? e3)).2]
      unfold chainM at e4
      rw [List.getElem?_replicate] at e4
      by_cases hi : i < m
      · rw [if_pos hi] at e4
        rw [← Option.some.inj e4]
      · rw [if_neg hi] at e4
        cases e4
  refine ⟨.int (m : Nat), rfl, 1, (m : Nat), rfl, ⟨by omega, by omega, by omega, by omega⟩, ?_⟩
  rw [show ((m : Int) - 1).toNat = m - 1 by omega]
  refine for_walk walk_rng (fun i σ H' => ∃ y2 y4, σ = [some (.str (letS c)), some (.int (m : Nat)), y2, some (.ref D), y4, none, none, none, none] ∧ LD H H' D (chainM c m i)) ⟨none, none, rfl, L0⟩ (fun _ _ _ _ _ => trivial) (fun i v σ H3 H4 hi h hy => ?_) (fun σ H3 h => ?_)
  · obtain ⟨y2, y4, rfl, L⟩ := h
    obtain ⟨rfl, rfl⟩ := hy
    have e1 : (1 + (i : Int)) = ((i + 1 : Nat) : Int) := by omega
    rw [e1]
    obtain ⟨hl, hrw⟩ := chain_rows h4 hd4 i (by omega)
    have hmt := mate_lt h4 hd4 (by omega : 1 ≤ i + 1) (by omega : i + 1 < m)
    obtain ⟨mt, hmt'⟩ : ∃ mt, mt = mateOf c m (i + 1) := ⟨_, rfl⟩
    have fin : ∀ (H5 : Hp) v4, v4 = V.int (mt : Nat) → LD H H5 D (chainM c m i) → (tSeq (tAsg (tC (.int 1)) (gSub (tOp (rIxL K) (tVar 3) (tVar 2)) (tVar 4) rSetL)) (tAsg (tC (.int 1)) (gSub (tOp (rIxL K) (tVar 3) (tVar 4)) (tVar 2) rSetL))) { nx := fun σ H' => ∃ y2 y4, σ = [some (.str (letS c)), some (.int (m : Nat)), y2, some (.ref D), y4, none, none, none, none] ∧ LD H H' D (chainM c m (i + 1)), rt := Q } [some (.str (letS c)), some (.int (m : Nat)), some (.int ((i + 1 : Nat) : Int)), some (.ref D), some v4, none, none, none, none] H5 := by
      rintro H5 _ rfl L5
      obtain ⟨r, rs, f1, f2, f3, L6⟩ := L5.set (i := i + 1) (j := mt) (x := 1) (by omega) (by rw [hrw _ (by omega)]; omega)
      refine ⟨.ref D, rfl, .int ((i + 1 : Nat) : Int), rfl, D, _, _, _, rfl, rfl, .inl (.inl f1), atI_nat (j := i + 1) (v := .ref r) (by rw [List.getElem?_map, f2]; rfl), .int (mt : Nat), rfl, r, _, _, mt, rfl, rfl, f3, ixNat (by rw [List.length_map, hrw _ (by omega)]; omega), ?_⟩
      obtain ⟨h5, h6⟩ := setM_rows (x := 1) (j := mt) hl hrw (by omega : i + 1 < m)
      obtain ⟨r', rs', f1', f2', f3', L7⟩ := L6.set (i := mt) (j := i + 1) (x := 1) (by omega) (by rw [h6 _ (by omega)]; omega)
      refine ⟨.ref D, rfl, .int (mt : Nat), rfl, D, _, _, _, rfl, rfl, .inl (.inl f1'), atI_nat (j := mt) (v := .ref r') (by rw [List.getElem?_map, f2']; rfl), .int ((i + 1 : Nat) : Int), rfl, r', _, _, i + 1, rfl, rfl, f3', ixNat (by rw [List.length_map, h6 _ (by omega)]; omega), ?_⟩
      refine ⟨_, _, rfl, ?_⟩
      have eC : chainM c m (i + 1) = setM (setM (chainM c m i) (i + 1) mt 1) mt (i + 1) 1 := by rw [hmt']; rfl
      rw [eC]
      exact L7
    refine ⟨.int ((i + 1 : Nat) : Int), rfl, ((i + 1 : Nat) : Int), 1, rfl, rfl, ?_⟩
    refine ⟨.str (letS c), rfl, by show 2 ≤ sizeLine; decide, fun p np => ⟨p, _, rfl, .inl (.inl (.inl upd_same)), by rfl, by rfl, _, rfl, ?_⟩⟩
    have Lp := L.same (same_upd (o := .lst [.str "d", .str "e"]) np)
    show (if inV (.str (letS c)) [.str "d", .str "e"] = true then _ else _)
    rw [let_in c hc6]
    by_cases hcd : c = 3 ∨ c = 4
    · rw [decide_eq_true hcd, if_pos rfl]
      refine ⟨.int ((i + 1 : Nat) : Int), rfl, .int (m : Nat), rfl, (m : Nat), 1, rfl, rfl, rfl, _, rfl, ?_⟩
      have hc : c = 3 := hcd.elim id fun z => absurd z h4
      by_cases hlast : i + 1 = m - 1
      · rw [decide_eq_true (show V.int ((i + 1 : Nat) : Int) = V.int ((m : Nat) - 1 : Int) by rw [hlast]; congr 1; omega)]
        refine iteT ⟨.str (letS c), rfl, rfl, _, rfl, ?_⟩
        rw [let_d c hc6, decide_eq_true hc]
        refine ⟨.int (m : Nat), rfl, (m : Nat), 3, rfl, rfl, ?_⟩
        refine fin _ _ ?_ Lp
        rw [hmt']
        unfold mateOf
        rw [if_pos ⟨hcd, hlast⟩, if_pos hc]
        exact congrArg V.int (show (m : Int) - 3 = ((m - 3 : Nat) : Int) by omega)
      · rw [decide_eq_false (fun z => hlast (by have := V.int.inj z; omega))]
        refine iteF (fin _ _ ?_ Lp)
        rw [hmt']
        unfold mateOf
        rw [if_neg (fun z => hlast z.2)]
        exact congrArg V.int (show ((i + 1 : Nat) : Int) - 1 = ((i + 1 - 1 : Nat) : Int) by omega)
    · rw [decide_eq_false hcd, if_neg (by decide)]
      refine fin _ _ ?_ Lp
      rw [hmt']
      unfold mateOf
      rw [if_neg (fun z => hcd z.1)]
      exact congrArg V.int (show ((i + 1 : Nat) : Int) - 1 = ((i + 1 - 1 : Nat) : Int) by omega)
  · obtain ⟨y2, y4, rfl, L⟩ := h
    obtain ⟨hl, hrw⟩ := chain_rows h4 hd4 (m - 1) (by omega)
    obtain ⟨A0, hA⟩ : ∃ A0, A0 = chainM c m (m - 1) := ⟨_, rfl⟩
    rw [← hA] at L hl hrw
    refine fun sp nsp => ?_
    refine ⟨.int (m : Nat), rfl, (m : Nat), 2, rfl, rfl, .int (m : Nat), rfl, (m : Nat), 1, rfl, rfl, by show 3 ≤ sizeLine; decide, fun t1 n1 => ?_⟩
    refine ⟨.int (m : Nat), rfl, (m : Nat), 1, rfl, rfl, .int (m : Nat), rfl, (m : Nat), 2, rfl, rfl, by show 3 ≤ sizeLine; decide, fun t2 n2 => ?_⟩
    refine ⟨by show 3 ≤ sizeLine; decide, fun t3 n3 => ⟨by show 3 ≤ sizeLine; decide, fun t4 n4 => ?_⟩⟩
    have u0 := fun o => same_upd (o := o) nsp
    have u1 := fun o => same_upd (o := o) n1
    have u2 := fun o => same_upd (o := o) n2
    have u3 := fun o => same_upd (o := o) n3
    have u4 := fun o => same_upd (o := o) n4
    refine ⟨u4 _ _ _ (u3 _ _ _ (u2 _ _ _ (u1 _ _ _ upd_same))), [(Sum.inr "b", .ref t1), (Sum.inr "c", .ref t2), (Sum.inr "f", .ref t3), (Sum.inr "g", .ref t4)], rfl, by show 4 ≤ 15; decide, ?_⟩
    obtain ⟨H5, hH5⟩ : ∃ H5, H5 = upd (upd (upd (upd (upd H3 sp (.dK [])) t1 (.tup [.int ((m : Int) - 2), .int ((m : Int) - 1), .int 2])) t2 (.tup [.int ((m : Int) - 1), .int ((m : Int) - 2), .int 2])) t3 (.tup [.int 1, .int 2, .int 2])) t4 (.tup [.int 0, .int 1, .int 3]) := ⟨_, rfl⟩
    have s5 : Same H3 H5 := by rw [hH5]; exact fun b o z => u4 _ _ _ (u3 _ _ _ (u2 _ _ _ (u1 _ _ _ (u0 _ _ _ z))))
    have esp : H5 sp = some (.dK []) := by rw [hH5]; exact u4 _ _ _ (u3 _ _ _ (u2 _ _ _ (u1 _ _ _ upd_same)))
    have et1 : H5 t1 = some (.tup [.int ((m : Int) - 2), .int ((m : Int) - 1), .int 2]) := by rw [hH5]; exact u4 _ _ _ (u3 _ _ _ (u2 _ _ _ upd_same))
    have et2 : H5 t2 = some (.tup [.int ((m : Int) - 1), .int ((m : Int) - 2), .int 2]) := by rw [hH5]; exact u4 _ _ _ (u3 _ _ _ upd_same)
    have et3 : H5 t3 = some (.tup [.int 1, .int 2, .int 2]) := by rw [hH5]; exact u4 _ _ _ upd_same
    have et4 : H5 t4 = some (.tup [.int 0, .int 1, .int 3]) := by rw [hH5]; exact upd_same
    obtain ⟨kvs, hkvs⟩ : ∃ kvs, kvs = mergeK [] [((Sum.inr "b" : L2.Key), V.ref t1), (Sum.inr "c", .ref t2), (Sum.inr "f", .ref t3), (Sum.inr "g", .ref t4)] := ⟨_, rfl⟩
    show (tSeq _ _) _ _ (upd (upd (upd (upd (upd (upd H3 sp (.dK [])) t1 (.tup [.int ((m : Int) - 2), .int ((m : Int) - 1), .int 2])) t2 (.tup [.int ((m : Int) - 1), .int ((m : Int) - 2), .int 2])) t3 (.tup [.int 1, .int 2, .int 2])) t4 (.tup [.int 0, .int 1, .int 3])) sp (.dK (mergeK [] [((Sum.inr "b" : L2.Key), V.ref t1), (Sum.inr "c", .ref t2), (Sum.inr "f", .ref t3), (Sum.inr "g", .ref t4)])))
    rw [← hH5, ← hkvs]
    obtain ⟨H6, hH6⟩ : ∃ H6, H6 = upd H5 sp (.dK kvs) := ⟨_, rfl⟩
    rw [← hH6]
    have s6 : Same H3 H6 := by
      rw [hH6]
      intro b o z
      rw [upd_ne (ne_of_none z nsp)]
      exact s5 _ _ z
    have nt : ∀ {t : Addr} {xs : List V}, H5 t = some (.tup xs) → H6 t = some (.tup xs) := fun {t xs} e => by
      rw [hH6, upd_ne]
      · exact e
      · intro z
        rw [z, esp] at e
        cases e
    have esp6 : H6 sp = some (.dK kvs) := by rw [hH6, upd_same]
    have L6 := L.same s6
    have hO : (valV kvs (Sum.inr (letS c)) = none ∧ named c m = A0) ∨ ∃ (t : Addr) (i j : Nat) (a b x : Int), valV kvs (Sum.inr (letS c)) = some (.ref t) ∧ H6 t = some (.tup [.int a, .int b, .int x]) ∧ a = (i : Nat) ∧ b = (j : Nat) ∧ i < m ∧ j < m ∧ named c m = setM A0 i j x := by
      rw [hkvs, let_spot _ _ _ _ c hc6]
      unfold named
      rw [← hA]
      by_cases c1 : c = 1
      · have := hb2 c1
        exact .inr ⟨t1, m - 2, m - 1, _, _, _, by rw [if_pos c1], nt et1, by omega, by omega, by omega, by omega, by rw [if_pos c1]⟩
      · by_cases c2 : c = 2
        · have := hc3 c2
          exact .inr ⟨t2, m - 1, m - 2, _, _, _, by rw [if_neg c1, if_pos c2], nt et2, by omega, by omega, by omega, by omega, by rw [if_neg c1, if_pos c2]⟩
        · by_cases c5 : c = 5
          · have := hf4 c5
            exact .inr ⟨t3, 1, 2, _, _, _, by rw [if_neg c1, if_neg c2, if_pos c5], nt et3, by omega, by omega, by omega, by omega, by rw [if_neg c1, if_neg c2, if_pos c5]⟩
          · by_cases c6 : c = 6
            · have := hg2 c6
              exact .inr ⟨t4, 0, 1, _, _, _, by rw [if_neg c1, if_neg c2, if_neg c5, if_pos c6], nt et4, by omega, by omega, by omega, by omega, by rw [if_neg c1, if_neg c2, if_neg c5, if_pos c6]⟩
            · exact .inl ⟨by rw [if_neg c1, if_neg c2, if_neg c5, if_neg c6], by rw [if_neg c1, if_neg c2, if_neg c5, if_neg c6]⟩
    refine ⟨.str (letS c), rfl, .ref sp, rfl, sp, _, rfl, DGet.k (k := Sum.inr (letS c)) esp6, _, rfl, ?_⟩
    rcases hO with ⟨e0, en⟩ | ⟨t, i, j, a, b, x, e0, et, rfl, rfl, hi, hj, en⟩
    · rw [e0]
      refine iteF ⟨.ref D, rfl, q H6 D L6.1 ?_⟩
      rw [en]
      exact L6.ll
    · rw [e0]
      obtain ⟨r, rs, f1, f2, f3, L7⟩ := L6.set (i := i) (j := j) (x := x) (by omega) (by rw [hrw _ (by omega)]; omega)
      refine iteT ⟨.ref sp, rfl, .str (letS c), rfl, sp, .ref t, rfl, e0 ▸ DGet.k (k := Sum.inr (letS c)) esp6, t, _, rfl, .inl (.inl et), rfl, _, _, rfl, _, _, rfl, _, _, rfl, rfl, ?_⟩
      refine ⟨.int x, rfl, .ref D, rfl, .int (i : Nat), rfl, D, _, _, _, rfl, rfl, .inl (.inl f1), atI_nat (j := i) (v := .ref r) (by rw [List.getElem?_map, f2]; rfl), .int (j : Nat), rfl, r, _, _, j, rfl, rfl, f3, ixNat (by rw [List.length_map, hrw _ (by omega)]; omega), ?_⟩
      refine ⟨.ref D, rfl, q _ D L7.1 ?_⟩
      rw [en]
      exact L7.ll
end
end K31

set_option Elab.async false
set_option linter.all false
set_option maxRecDepth 100000
set_option maxHeartbeats 4000000
namespace K31
open PySem PySem.Spec PyProof.Rows L2
/-! ### the walk, 21: a hall that ends -/
theorem names_sub : ∀ k, k < 6 → ∀ t ∈ namesOf k, t ∈ namesOf 5 := by decide
theorem names_pos : ∀ k, k < 6 → 0 < k → 1 ≤ (namesOf k).length ∧ (namesOf k).length < 1000 := by decide
theorem nm_sb {K : PySem.W.Frag} {H H' : Hp} {r : Addr} {v : V} {t : Nat × Nat} (hr : RowAt K H r) (h : NmAt H v t) (sb : SB r H H') : NmAt H' v t := by
  obtain ⟨a, e, h⟩ := h
  refine ⟨a, e, sb _ _ (fun z => ?_) h⟩
  obtain ⟨xs, e2, _⟩ := hr.some
  rw [z, e2] at h
  cases h
theorem nls_row {K : PySem.W.Frag} {H : Hp} {r l : Addr} {xs : List V} {ts : List (Nat × Nat)} (hr : RowAt K H r) (e : H l = some (.lst xs)) (h : NLs H xs ts) : l ≠ r := fun z => by
  obtain ⟨sc, i, sd, c, ns, er, _⟩ := hr
  rw [z, er] at e
  have e2 := HO.lst.inj (Option.some.inj e)
  rw [← e2] at h
  match ts, h with
  | _ :: _ :: _, ⟨_, ⟨⟨a, e3, _⟩, _⟩⟩ => cases e3
section
variable {P : Program} {w : World} {K : PySem.W.Frag} {mg : Str → Option Value} {base : Heap}
def spEnding (K : PySem.W.Frag) : Sp := fun vs H Q _ => ∃ r : Addr, vs = [.ref r, .int 5] ∧ RowAt K H r ∧ ∀ H' t M, SB r H H' → RowAt K H' r → Good M → TT H' t M → Q (.ref t) H'
abbrev n_ending : List Str := ["_law_row", "_law_most", "_law_letter", "_law_many", "_law_found", "_law_turn_here"]
theorem sc_ending : FnScope n_ending ["_law_row", "_law_most"] (defScope s_law_ending) := ⟨rfl, rfl, rfl, by decide +kernel, rfl, by decide +kernel, by decide +kernel⟩
theorem ok_ending (E : Ev K mg) (D : Dd K mg "_law_ending" s_law_ending) (Ct : Ca P w K mg base 1 "_law_taken" ["_law_row", "_law_many"] (spTaken K)) (Cp : Ca P w K mg base 2 "_law_pick" ["_law_row", "_law_some"] (spPick K))
    (Cn : Ca P w K mg base 1 "_law_names" ["_law_most"] spNames) (Cd : Ca P w K mg base 1 "_law_named" ["_law_letter", "_law_many"] spNamed) (Cb : Ca P w K mg base 1 "_law_beside" ["_law_one", "_law_other"] spBeside) (Cm : Ca P w K mg base 2 "_law_mixed" ["_law_row", "_law_pushes"] (spMixed K)) :
    Ca P w K mg base 3 "_law_ending" ["_law_row", "_law_most"] (spEnding K) := by
  refine mk_ca (k := 2) D sc_ending (fun vs H Q E h => ?_) (fun _ _ _ _ _ _ us hl => match us, hl with | [_, _], _ => rfl) (fun f cd A outer s H vs Q E' hr h => ?_)
  · obtain ⟨r, rfl, _⟩ := h
    rfl
  obtain ⟨r, rfl, hrow, q⟩ := h
  have nd := sc_ending.nd
  have hr1 := hr.mono (show 1 ≤ 2 by decide)
  refine ⟨_, pss_cons (ps_asg (pe_ca Cp hr (by rfl) (pa_cons (pv 0) (pa_cons (pe_ca (Cn.mono (by decide)) hr (by rfl) (pa_cons (pv 1) pa_nil)) pa_nil))) (pg_tup rfl (pgs_cons (pg_name (i := 2) nd rfl (.inl rfl)) (pgs_cons (pg_name (i := 3) nd rfl (.inl rfl)) pgs_nil))))
    (pss_cons (ps_set (i := 4) nd rfl (.inl rfl) (pe_ca (Cd.mono (by decide)) hr (by rfl) (pa_cons (pv 2) (pa_cons (pv 3) pa_nil))))
    (pss_cons (ps_forW rfl (pi_range1 (by rfl) E.rng (pa_cons (pe_ca (Ct.mono (by decide)) hr (by rfl) (pa_cons (pv 0) (pa_cons pe_int pa_nil))) pa_nil)) (pg_name (i := 5) nd rfl (.inl rfl))
      (pss_one (ps_if (pt_cmpR op_lt (pe_callB call_lenK (by rfl) E.len PySem.boot_len (pa_cons (pv 4) pa_nil)) (pv 1) (nomark _))
        (pss_cons (ps_asg (pe_ca Cp hr (by rfl) (pa_cons (pv 0) (pa_cons (pe_ca (Cn.mono (by decide)) hr (by rfl) (pa_cons (pe_op op_sub (pv 1) (pe_callB call_lenK (by rfl) E.len PySem.boot_len (pa_cons (pv 4) pa_nil))) pa_nil)) pa_nil))) (pg_tup rfl (pgs_cons (pg_name (i := 2) nd rfl (.inl rfl)) (pgs_cons (pg_name (i := 3) nd rfl (.inl rfl)) pgs_nil))))
        (pss_one (ps_set (i := 4) nd rfl (.inl rfl) (pe_ca (Cb.mono (by decide)) hr (by rfl) (pa_cons (pv 4) (pa_cons (pe_ca (Cd.mono (by decide)) hr (by rfl) (pa_cons (pv 2) (pa_cons (pv 3) pa_nil))) pa_nil)))))) pss_nil)))
    (pss_one (ps_ret (pe_ca Cm hr (by rfl) (pa_cons (pv 0) (pa_cons (pv 4) pa_nil))))))), ?_⟩
  refine ⟨.ref r, rfl, .int 5, rfl, 5, rfl, by decide, fun H1 l xs s1 el hx => ?_⟩
  have hr1 := hrow.same s1
  refine ⟨r, l, xs, rfl, hr1, el, nls_row hr1 el hx, by rw [hx.len]; decide, by rw [hx.len]; decide, fun i v H2 sb2 hr2 ev => ?_⟩
  obtain ⟨⟨c, m⟩, hcm, hnm⟩ := hx.get ev
  obtain ⟨a, rfl, ea⟩ := nm_sb hr1 hnm sb2
  refine ⟨a, _, rfl, .inl (.inl ea), rfl, _, _, rfl, _, _, rfl, rfl, ?_⟩
  refine ⟨.str (letS c), rfl, .int (m : Nat), rfl, c, m, rfl, hcm, fun H3 l3 s3 L3 => ?_⟩
  have sb3 : SB r H H3 := (SB.same s1).trans (sb2.trans (.same s3))
  have hr3 := hr2.same s3
  have d0 : DrawnAt 0 (named c m) := List.mem_map.mpr ⟨(c, m), hcm, rfl⟩
  refine ⟨.ref r, rfl, r, 3, rfl, hr3, by decide, by decide, fun t H4 sb4 hr4 ht => ⟨(t : Nat), rfl, by omega, by omega, ?_⟩⟩
  refine for_walk walk_rng (fun i σ H' => ∃ y2 y3 l M y5, σ = [some (.ref r), some (.int 5), y2, y3, some (.ref l), y5] ∧ SB r H H' ∧ RowAt K H' r ∧ LL H' l M ∧ DrawnAt i M)
    ⟨_, _, l3, named c m, none, rfl, sb3.trans sb4, hr4, L3.sb hr3 sb4, d0⟩ (fun _ _ _ _ _ => trivial) (fun i v σ H5 H6 hi h hy => ?_) (fun σ H5 h => ?_)
  · obtain ⟨y2, y3, l5, M, y5, rfl, sb5, hr5, L5, d5⟩ := h
    obtain ⟨rfl, rfl⟩ := hy
    obtain ⟨rs, eM, lM, h3⟩ := L5
    have S := d5.drawn.good.shape
    have hrl : (rs.map V.ref).length = M.length := by rw [List.length_map, lM]
    have hi2 : i < 2 := by omega
    refine ⟨.ref l5, rfl, l5, _, rfl, .inl (.inl (.inl eM)), .int 5, rfl, _, 5, rfl, rfl, _, rfl, ?_⟩
    rw [hrl]
    by_cases h5 : M.length < 5
    · rw [decide_eq_true (show ((M.length : Nat) : Int) < 5 by omega)]
      refine iteT ⟨.ref r, rfl, .int 5, rfl, .ref l5, rfl, l5, _, rfl, .inl (.inl (.inl eM)), 5, _, rfl, rfl, 5 - M.length, ?_, by omega, fun H7 l7 xs7 s7 e7 hx7 => ?_⟩
      · exact congrArg (fun z => [V.int z]) (show (5 : Int) - ((rs.map V.ref).length : Nat) = ((5 - M.length : Nat) : Int) by omega)
      have hr7 := hr5.same s7
      obtain ⟨p1, p2⟩ := names_pos (5 - M.length) (by omega) (by omega)
      refine ⟨r, l7, xs7, rfl, hr7, e7, nls_row hr7 e7 hx7, by rw [hx7.len]; exact p1, by rw [hx7.len]; omega, fun j v H8 sb8 hr8 ev => ?_⟩
      obtain ⟨⟨c', m'⟩, hcm', hnm'⟩ := hx7.get ev
      obtain ⟨a', rfl, ea'⟩ := nm_sb hr7 hnm' sb8
      have hcm5 := names_sub (5 - M.length) (by omega) _ hcm'
      have S' : Shape (named c' m') := (DrawnAt.drawn (i := 0) (List.mem_map.mpr ⟨(c', m'), hcm5, rfl⟩)).good.shape
      refine ⟨a', _, rfl, .inl (.inl ea'), rfl, _, _, rfl, _, _, rfl, rfl, ?_⟩
      refine ⟨.ref l5, rfl, .str (letS c'), rfl, .int (m' : Nat), rfl, c', m', rfl, hcm5, fun H9 l9 s9 L9 => ?_⟩
      have L5' : LL H9 l5 M := (LL.sb hr7 (LL.same s7 ⟨rs, eM, lM, h3⟩) sb8).same s9
      refine ⟨l5, l9, M, named c' m', rfl, L5', L9, S.le, S'.le, fun x hx => by rw [S.rows x hx]; exact S.le, fun x hx => by rw [S'.rows x hx]; exact S'.le, fun Ha la sa La => ?_⟩
      exact ⟨_, _, la, _, _, rfl, sb5.trans ((SB.same s7).trans (sb8.trans (.same (s9.trans sa)))), hr8.same (s9.trans sa), La, d5.more hi2 h5 hcm'⟩
    · rw [decide_eq_false (show ¬ ((M.length : Nat) : Int) < 5 by omega)]
      exact iteF ⟨_, _, l5, M, _, rfl, sb5, hr5, ⟨rs, eM, lM, h3⟩, d5.stay⟩
  · obtain ⟨y2, y3, l5, M, y5, rfl, sb5, hr5, L5, d5⟩ := h
    have G := d5.drawn.good
    exact ⟨.ref r, rfl, .ref l5, rfl, r, l5, M, rfl, hr5, L5, G.shape.pos, G.shape.le, G.shape.rows, fun H' t o sb' hr' hp tt => q H' t _ (sb5.trans sb') hr' (mix_good hp G) tt⟩
end
end K31

set_option Elab.async false
set_option linter.all false
set_option maxRecDepth 100000
set_option maxHeartbeats 4000000
namespace K31
open PySem PySem.Spec PyProof.Rows L2
/-! ### the walk, 22: what stands while the row is written -/
section
variable {P : Program} {w : World} {K : PySem.W.Frag} {H H' : Hp} {r : Addr}
theorem row_nl {p : Addr} {o : HO} (hr : RowAt K H r) (e : H p = some o) (n : ∀ xs, o ≠ .lst xs) : p ≠ r := fun z => by
  obtain ⟨xs, e2, _⟩ := hr.some
  rw [z, e2] at e
  exact n xs (Option.some.inj e).symm
theorem it_row {p : Addr} {ns : List Int} (hr : RowAt K H r) (h : IT H p ns) : p ≠ r := by
  rcases h with h | ⟨o, h⟩
  · exact row_nl hr h fun _ z => nomatch z
  · exact row_nl hr h fun _ z => nomatch z
theorem pt_row {p : Addr} {ns : List Int} (hr : RowAt K H r) (h : PT H p ns) : p ≠ r := by
  obtain ⟨o, h, _⟩ := h
  exact row_nl hr h fun _ z => nomatch z
theorem IT.rb {p : Addr} {ns : List Int} (hr : RowAt K H r) (sb : SB r H H') (h : IT H p ns) : IT H' p ns := h.sb sb (it_row hr h)
theorem PT.rb {p : Addr} {ns : List Int} (hr : RowAt K H r) (sb : SB r H H') (h : PT H p ns) : PT H' p ns := h.sb sb (pt_row hr h)
theorem TT.rb {p : Addr} {M : Mat} (hr : RowAt K H r) (sb : SB r H H') (h : TT H p M) : TT H' p M := by
  obtain ⟨rs, h1, h2, h3⟩ := h
  exact ⟨rs, sb _ _ (row_nl hr h1 fun _ z => nomatch z) h1, h2, fun i a ns e1 e2 => (h3 i a ns e1 e2).rb hr sb⟩
theorem HallAt.rb {p : Addr} {M : Mat} (hr : RowAt K H r) (sb : SB r H H') (h : HallAt K H p M) : HallAt K H' p M := by
  obtain ⟨dx, t, h1, h2⟩ := h
  exact ⟨dx, t, sb _ _ (row_nl hr h1 fun _ z => nomatch z) h1, h2.rb hr sb⟩
theorem XT.rb {d : Addr} {m : Tab} (hr : RowAt K H r) (sb : SB r H H') (h : XT P w H d m) : XT P w H' d m := by
  obtain ⟨q3, e, l, rel⟩ := h
  exact ⟨q3, sb _ _ (row_nl hr e fun _ z => nomatch z) e, l, Paired.mapP rel fun _ _ z => ⟨z.1, z.2.1.rb hr sb, z.2.2.rb hr sb⟩⟩
theorem refs_row {p : Addr} {bs : List TB} (hr : RowAt K H r) (e : H p = some (.lst (bs.map fun b => V.ref b.1))) : p ≠ r := fun z => by
  obtain ⟨sc, i, sd, c, ns, er, _⟩ := hr
  rw [z, er] at e
  have e2 := HO.lst.inj (Option.some.inj e)
  match bs, e2 with
  | _ :: [], h => cases h
  | _ :: _ :: _, h => cases h
/-- the hall, its ways, the known arrows, the row -/
structure LS (P : Program) (w : World) (K : PySem.W.Frag) (r a d kn t : Addr) (M : Mat) (m : Tab) (bs : List TB) (H : Hp) : Prop where
  row : RowAt K H r
  hall : HallAt K H a M
  tt : TT H t M
  xt : XT P w H d m
  kn : H kn = some (.lst (bs.map fun b => V.ref b.1))
  pts : ∀ b ∈ bs, PT H b.1 b.2
variable {a d kn t : Addr} {M : Mat} {m : Tab} {bs : List TB}
theorem LS.same (h : LS P w K r a d kn t M m bs H) (s : Same H H') : LS P w K r a d kn t M m bs H' :=
  ⟨h.row.same s, h.hall.same s, h.tt.same s, h.xt.same s, s _ _ h.kn, fun b hb => (h.pts b hb).same s⟩
theorem LS.sb (h : LS P w K r a d kn t M m bs H) (sb : SB r H H') (hr : RowAt K H' r) : LS P w K r a d kn t M m bs H' :=
  ⟨hr, h.hall.rb h.row sb, h.tt.rb h.row sb, h.xt.rb h.row sb, sb _ _ (refs_row h.row h.kn) h.kn, fun b hb => (h.pts b hb).rb h.row sb⟩
/-- no way, whatever becomes of the row -/
def Odd (K : PySem.W.Frag) (r : Addr) (n : Nat) (H : Hp) (v : V) : Prop := ∀ H', SB r H H' → Third K H' n v none
theorem Odd.sb {n : Nat} {v : V} (h : Odd K r n H v) (s : SB r H H') : Odd K r n H' v := fun H2 s2 => h H2 (s.trans s2)
theorem Odd.same {n : Nat} {v : V} (h : Odd K r n H v) (s : Same H H') : Odd K r n H' v := h.sb (.same s)
theorem odd_ty {n : Nat} {v : V} {T : String} (h : ∀ H', SB r H H' → TyX K H' v (.type T)) (k : kitB T "tuple" = some false) : Odd K r n H v := fun H' s => .inr (.inl ⟨T, h H' s, k, rfl⟩)
theorem odd_tup {n : Nat} {p : Addr} {ways : List Int} {y : V} (hr : RowAt K H r) (h : Rd H p (.tup (ways.map V.int ++ [y]))) (hl : ways.length + 1 ≤ 10000) (hy : ∀ H', SB r H H' → Oddy K H' y) (hn : okB n y = false) : Odd K r n H (.ref p) := fun H' s => by
  have h' : Rd H' p (.tup (ways.map V.int ++ [y])) := by
    rcases h with h | ⟨o, h⟩
    · exact .inl (s _ _ (row_nl hr h fun _ z => nomatch z) h)
    · exact .inr ⟨o, s _ _ (row_nl hr h fun _ z => nomatch z) h⟩
  refine .inr (.inr ⟨p, _, rfl, h', by simp; omega, fun x hx => ?_, ⟨y, by simp, hn⟩, rfl⟩)
  rcases List.mem_append.mp hx with hx | hx
  · obtain ⟨z, _, rfl⟩ := List.mem_map.mp hx
    exact .inl ⟨z, rfl⟩
  · rw [List.mem_singleton.mp hx]
    exact hy H' s
theorem rd_tail {wr tt : Addr} {ways : List Int} {y : V} {Q : VK} (hw : IT H wr ways) (ht : H tt = some (.tup [y])) (hl : ways.length ≤ 9000) (q : ∀ H' p, Same H H' → Rd H' p (.tup (ways.map V.int ++ [y])) → Q (.ref p) H') : rCatP K (.ref wr) (.ref tt) H Q := by
  refine ⟨wr, tt, _, _, rfl, rfl, hw.sq, .inl (.inl ht), ?_, fun z => ?_, fun _ z => absurd z (by simp), fun _ _ p o np _ => q _ p (same_upd np) (.inr ⟨o, upd_same⟩)⟩
  · rw [List.length_map]
    exact Nat.le_of_lt (Nat.lt_of_le_of_lt (show _ ≤ 10000 by simp; omega) (by decide))
  · refine q H tt (.refl _) (.inl ?_)
    rw [z]
    exact ht
end
end K31

set_option Elab.async false
set_option linter.all false
set_option maxRecDepth 100000
set_option maxHeartbeats 4000000
namespace K31
open PySem PySem.Spec PyProof.Rows L2
/-! ### the walk, 23: the law -/
section
variable {P : Program} {w : World} {K : PySem.W.Frag} {mg : Str → Option Value} {base : Heap}
def spLaw (K : PySem.W.Frag) : Sp := fun vs H Q _ => ∃ (a : Addr) (ns : List Int), vs = [.ref a] ∧ SqL K H a (ns.map V.int) ∧ ∀ H', Q (.bl true) H'
abbrev n_law : List Str := ["_law_script", "_law_row", "_law_pushes", "_law_hall", "_law_ways_here", "_law_known", "_law_turn_here", "_law_arrow", "_law_way", "_law_change", "_law_at", "_law_lamp", "_law_now", "_law_answer", "_law_odd"]
theorem sc_law : FnScope n_law ["_law_script"] (defScope s_law) := ⟨rfl, rfl, rfl, by decide +kernel, rfl, by decide +kernel, by decide +kernel⟩
theorem mk_fn {x : Str} {st : Stmt} {N ps : List Str} {k : Nat} {sp : Sp} {f0 : Addr} {fd0 : FuncData} (F : FnP K x st f0 fd0) (S : FnScope N ps (defScope st)) (len : ∀ vs H Q E, sp vs H Q E → vs.length = ps.length)
    (body : ∀ (f : Addr) (cd : Value) (A : Around) (outer : List Env) (s : Shared) (H : Hp) (vs : List V) (Q : VK) (E : XK), Room k (A.deeper (envOfC x (defScope st) s.heap.objs.size f cd)) → sp vs H Q E →
      ∃ t, PSs (Bx P w K mg base N x st f cd A outer s H E) (defBody st) t ∧ t { nx := fun _ H' => Q .non H', rt := Q } (start N vs) H) : FnOk P w K mg base CX0 (k + 1) f0 fd0 ps sp := by
  refine F.ok S len (fun cd A outer s H vs Q E hr h => ?_)
  obtain ⟨t, h1, h2⟩ := body f0 cd A outer s H vs Q E hr h
  exact ⟨t, PSs.nox h1, h2⟩
theorem ok_law {f0 : Addr} {fd0 : FuncData} (E : Ev K mg) (F : FnP K "law" s_law f0 fd0) (Ci : CaM P w K mg base 3 (He.ma K (cH K) "__init__") ["self", "pushes"] (spInit K)) (Ce : Ca P w K mg base 3 "_law_ending" ["_law_row", "_law_most"] (spEnding K)) (Cl : Ca P w K mg base 2 "_law_ways" ["_law_pushes"] (spLWays P w K))
    (Ca1 : Ca P w K mg base 5 "arrows" ["hall"] (spArrows K)) (Cp : Ca P w K mg base 2 "_law_pick" ["_law_row", "_law_some"] (spPick K)) (Ct : Ca P w K mg base 1 "_law_taken" ["_law_row", "_law_many"] (spTaken K)) (Cw : Ca P w K mg base 7 "way_to_unit" ["hall", "arrow"] (spWay K))
    (Cn : Ca P w K mg base 7 "turned_arrow" ["hall", "arrow", "lamp"] (spTurnedArrow K)) (Cs : Ca P w K mg base 7 "shows_way" ["hall", "arrow", "value"] (spShows K)) : FnOk P w K mg base CX0 8 f0 fd0 ["_law_script"] (spLaw K) := by
  refine mk_fn (k := 7) F sc_law (fun vs H Q E h => ?_) (fun f cd A outer s H vs Q E' hr h => ?_)
  · obtain ⟨a, ns, rfl, _⟩ := h
    rfl
  obtain ⟨sc, ns, rfl, hsc, q⟩ := h
  have nd := sc_law.nd
  have hu := hu_of hr
  have hu65 : (A.deeper (envOfC "law" (defScope s_law) s.heap.objs.size f cd)).units + 65 < cLine := by
    have := hr.un
    omega
  obtain ⟨fi, Fi, Bi⟩ := Ci
  refine ⟨_, pss_cons (ps_set (i := 1) nd rfl (.inl rfl) (pe_lst (pa_cons (pv 0) (pa_cons pe_int (pa_cons pe_int (pa_cons pe_int pa_nil))))))
    (pss_cons (ps_set (i := 2) nd rfl (.inl rfl) (pe_ca (Ce.mono (by decide)) hr (by rfl) (pa_cons (pv 1) (pa_cons pe_int pa_nil))))
    (pss_cons (ps_par (i := 3) (j := 4) rfl nd rfl rfl (by decide) rfl rfl (pa_cons (pe_make E.mkr Fi (hr.mono (by decide)) (by rfl) E.hall Bi .nil pass0 (pa_cons (pv 2) pa_nil)) (pa_cons (pe_ca (Cl.mono (by decide)) hr (by rfl) (pa_cons (pv 2) pa_nil)) pa_nil)) (by rfl))
    (pss_cons (ps_if (pt_cmpR op_ne (pe_callB call_xlen (by rfl) E.len PySem.boot_len (pa_cons (pv 4) pa_nil)) (pe_op op_mul pe_int (pe_callB call_lenK (by rfl) E.len PySem.boot_len (pa_cons (pe_ca (Ca1.mono (by decide)) hr (by rfl) (pa_cons (pv 3) pa_nil)) pa_nil))) (nomark _)) (pss_one (ps_ret pe_bl)) pss_nil)
    (pss_cons (ps_set (i := 5) nd rfl (.inl rfl) (pe_callB (cr_sortedT (hu3 hr)) (by rfl) E.srt boot_sorted (pa_cons (pe_callTy (call_xlist rfl) (by rfl) E.lst boot_list (pa_cons (pv 4) pa_nil)) pa_nil)))
    (pss_cons (ps_forW rfl (pi_range1 (by rfl) E.rng (pa_cons pe_int pa_nil)) (pg_name (i := 6) nd rfl (.inl rfl))
      (pss_cons (ps_set (i := 7) nd rfl (.inl rfl) (pe_ca (Cp.mono (by decide)) hr (by rfl) (pa_cons (pv 1) (pa_cons (pv 5) pa_nil))))
      (pss_cons (ps_if (pt_cmpR (op_neI .tu hr.units) (pe_ca Cw hr (by rfl) (pa_cons (pv 3) (pa_cons (pv 7) pa_nil))) (pe_xget hu (pv 4) (pv 7) (fun _ _ => rfl)) (nomark _)) (pss_one (ps_ret pe_bl)) pss_nil)
      (pss_cons (ps_set (i := 8) nd rfl (.inl rfl) (pe_callTy call_listK (by rfl) E.lst boot_list (pa_cons (pe_xget hu (pv 4) (pv 7) (fun _ _ => rfl)) pa_nil)))
      (pss_cons (ps_forW rfl (pi_range1 (by rfl) E.rng (pa_cons (pe_ca (Ct.mono (by decide)) hr (by rfl) (pa_cons (pv 1) (pa_cons pe_int pa_nil))) pa_nil)) (pg_name (i := 9) nd rfl (.inl rfl))
        (pss_cons (ps_par (i := 10) (j := 11) rfl nd rfl rfl (by decide) rfl rfl (pa_cons (pe_ca (Ct.mono (by decide)) hr (by rfl) (pa_cons (pv 1) (pa_cons (pe_op op_add (pe_callB call_lenK (by rfl) E.len PySem.boot_len (pa_cons (pv 8) pa_nil)) pe_int) pa_nil)))
            (pa_cons (pe_ca (Ct.mono (by decide)) hr (by rfl) (pa_cons (pv 1) (pa_cons (pe_callB call_lenK (by rfl) E.len PySem.boot_len (pa_cons (pv 2) pa_nil)) pa_nil))) pa_nil)) (by rfl))
        (pss_one (ps_set (i := 8) nd rfl (.inl rfl) (pe_op op_cat (pe_op op_cat (pe_slice sl_list (pv 8) po_none (po_some (pv 10))) (pe_op op_rep (pe_lst (pa_cons (pv 11) pa_nil)) (pe_op op_add pe_int (pe_ca (Ct.mono (by decide)) hr (by rfl) (pa_cons (pv 1) (pa_cons pe_int pa_nil))))))
            (pe_slice sl_list (pv 8) (po_some (pe_op op_add (pv 10) (pe_ca (Ct.mono (by decide)) hr (by rfl) (pa_cons (pv 1) (pa_cons pe_int pa_nil))))) po_none))))))
      (pss_cons (ps_set (i := 12) nd rfl (.inl rfl) (pv 7))
      (pss_cons (ps_forW rfl (pi_list (pv 8)) (pg_name (i := 11) nd rfl (.inl rfl)) (pss_one (ps_set (i := 12) nd rfl (.inl rfl) (pe_ca Cn hr (by rfl) (pa_cons (pv 3) (pa_cons (pv 12) (pa_cons (pv 11) pa_nil)))))))
      (pss_cons (ps_set (i := 13) nd rfl (.inl rfl) (pe_ca Cs hr (by rfl) (pa_cons (pv 3) (pa_cons (pv 7) (pa_cons (pe_callTy call_tupK (by rfl) E.tup boot_tuple (pa_cons (pv 8) pa_nil)) pa_nil)))))
      (pss_one (ps_if (pw_or (pt_not (pt_val (pe_isi E.isi E.bool boot_bool (pv 13) (by rfl) (by rfl))))
          (pw_or1 (pt_cmpR op_ne (pv 13) (pe_and (pe_cmpR (op_eqI .tu hr.units) (pe_xget hu (pv 4) (pv 12) (fun _ _ => rfl)) (pe_tup pa_nil) (nomark _)) (pe_one (pe_cmpR (op_inTb hu65) (pv 12) (pv 5) (by rfl)))) (nomark _)))).pt (pss_one (ps_ret pe_bl)) pss_nil))))))))))
    (pss_cons (ps_set (i := 8) nd rfl (.inl rfl) (pe_ca Cw hr (by rfl) (pa_cons (pv 3) (pa_cons (pv 7) pa_nil))))
    (pss_cons (ps_set (i := 14) nd rfl (.inl rfl) (pe_lst (pa_cons pe_non (pa_cons (pe_callTy call_listK (by rfl) E.lst boot_list (pa_cons (pv 8) pa_nil)) (pa_cons (pe_op op_catP (pv 8) (pe_tup (pa_cons pe_non pa_nil)))
        (pa_cons (pe_op op_catP (pv 8) (pe_tup (pa_cons (pe_callB call_lenK (by rfl) E.len PySem.boot_len (pa_cons (pv 2) pa_nil)) pa_nil))) (pa_cons (pe_op op_catP (pv 8) (pe_tup (pa_cons (pe_un un_neg pe_int) pa_nil))) (pa_cons (pe_op op_catP (pv 8) (pe_tup (pa_cons pe_bl pa_nil)))
        (pa_cons (pe_op op_catP (pv 8) (pe_tup (pa_cons (pe_lst (pa_cons pe_int pa_nil)) pa_nil))) pa_nil)))))))))
    (pss_one (ps_ret (pe_not (pe_ca Cs hr (by rfl) (pa_cons (pv 3) (pa_cons (pv 7) (pa_cons (pe_ca (Cp.mono (by decide)) hr (by rfl) (pa_cons (pv 1) (pa_cons (pe_op op_cat (pv 14) (pe_lst (pa_cons (pe_op op_catP (pv 8) (pe_tup (pa_cons (pe_tup pa_nil) pa_nil))) (pa_cons pe_dnewK (pa_cons pe_int (pa_cons pe_str pa_nil)))))) pa_nil))) pa_nil)))))))))))))), ?_⟩
  refine ⟨.ref sc, rfl, by show 4 ≤ sizeLine; decide, fun r nr => ?_⟩
  obtain ⟨H1, hH1⟩ : ∃ H1, H1 = upd H r (.lst [.ref sc, .int 0, .int 1731, .int 0]) := ⟨_, rfl⟩
  have s1 : Same H H1 := by rw [hH1]; exact same_upd nr
  have row1 : RowAt K H1 r := ⟨sc, 0, 1731, 0, ns, by rw [hH1]; exact upd_same, s1.seq hsc, by decide, by decide, by decide, by decide⟩
  refine ⟨.ref r, rfl, r, rfl, by rw [← hH1]; exact row1, fun H2 t M sb2 row2 G tt2 => ?_⟩
  have S := G.shape
  obtain ⟨u, W⟩ := G.wit
  obtain ⟨RD, R⟩ := G.roots
  refine ⟨.ref t, rfl, fun x dx nx ndx hdx => ⟨x, dx, t, M, rfl, upd_same, ?_, S, fun H3 sb3 e3 => ⟨rfl, ?_⟩⟩⟩
  · refine (tt2.same (same_upd ndx)).same (same_upd ?_)
    rw [upd_ne hdx.symm]
    exact nx
  have sI : Same H2 (upd (upd H2 dx (.own x)) x (.ins (cH K) dx [])) := (same_upd ndx).trans (same_upd (by rw [upd_ne hdx.symm]; exact nx))
  have s3 : Same H2 H3 := same_sb nx sI sb3
  have hall3 : HallAt K H3 x M := ⟨dx, t, e3, tt2.same s3⟩
  refine ⟨.ref t, rfl, t, M, RD, rfl, tt2.same s3, S, R, fun H4 d m s4 xt4 A4 => ⟨.ref x, .ref d, rfl, ?_⟩⟩
  refine ⟨.ref d, rfl, d, m, rfl, xt4, .ref x, rfl, x, M, u, RD, rfl, hall3.same s4, S, W, R, fun H5 l5 xs5 m5 s5 e5 hl5 A5 => ?_⟩
  refine ⟨l5, xs5, rfl, .inl (.inl (.inl e5)), 2, (xs5.length : Nat), rfl, rfl, .inl ⟨by omega, by omega⟩, rfl, _, rfl, ?_⟩
  have e2 : m.length = 2 * xs5.length := by rw [hl5]; exact R.twice S A5 A4
  rw [decide_eq_true (show V.int (m.length : Nat) = V.int (2 * (xs5.length : Nat)) by rw [e2]; exact congrArg V.int (by omega))]
  refine iteF ?_
  have xt5 := xt4.same s5
  have kin : ∀ {z : Vec}, z ∈ keysM m ↔ ∃ k, (z, k) ∈ SR RD := fun {z} => by
    constructor
    · intro h
      obtain ⟨p, hp, rfl⟩ := List.mem_map.mp h
      obtain ⟨j, h1, _⟩ := (A4.2 p.1 p.2).mp hp
      exact ⟨j, h1⟩
    · rintro ⟨k, hk⟩
      exact List.mem_map.mpr ⟨(z, way M (SR RD) k z), (A4.2 z _).mpr ⟨k, hk, rfl⟩, rfl⟩
  refine ⟨.ref d, rfl, d, m, rfl, xt5, fun p bs np xk => ?_⟩
  have s6 := fun o => same_upd (o := o) np
  have hbs : ∀ b ∈ bs, ∃ k, (b.2, k) ∈ SR RD := fun b hb => kin.mp (by rw [← xk.1]; exact List.mem_map.mpr ⟨b, hb, rfl⟩)
  refine ⟨p, bs, rfl, .inl (.inl upd_same), fun b hb => ⟨((xk.2 b hb).same (s6 _)).it, fun z => ?_⟩, fun cs kn hperm nkn => ?_⟩
  · obtain ⟨k, hk⟩ := hbs b hb
    have := SR_len R hk
    rw [z] at this
    have h1 := S.pos
    exact absurd this (by simp; omega)
  have s7 := fun o => (s6 _).trans (same_upd (o := o) nkn)
  have L0 : LS P w K r x d kn t M m cs (upd (upd H5 p (.lst (bs.map fun b => V.ref b.1))) kn (.lst (cs.map fun b => V.ref b.1))) :=
    ⟨row2.same (s3.trans (s4.trans (s5.trans (s7 _)))), hall3.same (s4.trans (s5.trans (s7 _))), tt2.same (s3.trans (s4.trans (s5.trans (s7 _)))), xt5.same (s7 _), upd_same, fun b hb => (xk.2 b (hperm.mem_iff.mp hb)).same (s7 _)⟩
  have hcs : ∀ b ∈ cs, ∃ k, (b.2, k) ∈ SR RD := fun b hb => hbs b (hperm.mem_iff.mp hb)
  have hin : ∀ {z : Vec} {k : Nat}, (z, k) ∈ SR RD → z ∈ cs.map (·.2) := fun {z k} hz => by
    have h1 : z ∈ bs.map (·.2) := by
      rw [xk.1]
      exact kin.mpr ⟨k, hz⟩
    exact (hperm.map _).mem_iff.mpr h1
  have hcl : 1 ≤ cs.length ∧ cs.length ≤ 10000 := by
    have e3 : cs.length = m.length := by
      rw [hperm.length_eq]
      have := congrArg List.length xk.1
      rw [List.length_map] at this
      rw [this]
      exact List.length_map _
    have e4 := R.bnd
    have e5 : m.length ≤ (SR RD).length := by
      have h1 : (keysM m).length ≤ ((SR RD).map (·.1)).length := nodup_le A4.1 fun z hz => by
        obtain ⟨k, hk⟩ := kin.mp hz
        exact List.mem_map.mpr ⟨(z, k), hk, rfl⟩
      rw [List.length_map] at h1
      have h2 : (keysM m).length = m.length := List.length_map _
      omega
    rw [SR_length] at e5
    have h0 : 1 ≤ (keysM m).length := List.length_pos_iff.mpr fun z => by
      have h3 := kin.mpr ⟨0, mem_SR.mpr (.inl (R.uni 0 S.pos))⟩
      rw [z] at h3
      cases h3
    have h2 : (keysM m).length = m.length := List.length_map _
    omega
  refine ⟨6, rfl, by decide, by decide, ?_⟩
  refine for_walk walk_rng (fun i σ H' => ∃ y6 y7 y8 y9 y10 y11 y12 y13, σ = [some (.ref sc), some (.ref r), some (.ref t), some (.ref x), some (.ref d), some (.ref kn), y6, y7, y8, y9, y10, y11, y12, y13, none] ∧ LS P w K r x d kn t M m cs H' ∧ (0 < i → ∃ v z, y7 = some (.ref v) ∧ PT H' v z ∧ ∃ k, (z, k) ∈ SR RD))
    ⟨none, none, none, none, none, none, none, none, rfl, L0, fun h => absurd h (by decide)⟩ (fun _ _ _ _ _ => trivial) (fun i v σ H6 H7 hi h hy => ?_) (fun σ H6 h => ?_)
  · obtain ⟨y6, y7, y8, y9, y10, y11, y12, y13, rfl, L, _⟩ := h
    obtain ⟨rfl, rfl⟩ := hy
    have cl : (cs.map fun b => V.ref b.1).length = cs.length := List.length_map _
    refine ⟨.ref r, rfl, .ref kn, rfl, r, kn, _, rfl, L.row, L.kn, refs_row L.row L.kn, by omega, by omega, fun j v H8 sb8 row8 ev => ?_⟩
    have L8 := L.sb sb8 row8
    obtain ⟨v0, z0, hb, rfl⟩ : ∃ v0 z0, (v0, z0) ∈ cs ∧ v = .ref v0 := by
      rw [List.getElem?_map] at ev
      cases e : cs[j]? with
      | none => rw [e] at ev; cases ev
      | some b => rw [e] at ev; exact ⟨b.1, b.2, List.mem_of_getElem? e, (Option.some.inj ev).symm⟩
    obtain ⟨k, hk⟩ := hcs _ hb
    have look : ∀ {z : Vec} {k : Nat}, (z, k) ∈ SR RD → lookM m z = some (way M (SR RD) k z) := fun {z k} h => mem_look A4.1 ((A4.2 _ _).mpr ⟨k, h, rfl⟩)
    have pv8 : PT H8 v0 z0 := L8.pts _ hb
    refine ⟨.ref x, rfl, .ref v0, rfl, x, v0, M, u, RD, z0, k, rfl, ⟨L8.hall, S, W, R, pv8, ⟨k, hk⟩⟩, hk, fun H9 wr s9 hw9 => ?_⟩
    have L9 := L8.same s9
    have pv9 : PT H9 v0 z0 := L9.pts _ hb
    refine ⟨.ref d, rfl, .ref v0, rfl, d, v0, m, z0, _, rfl, rfl, L9.xt, pv9.it, look hk, fun w2 hw2 => ⟨wr, w2, _, _, rfl, rfl, hw9.sq, hw2.sq, _, rfl, ?_⟩⟩
    rw [decide_eq_true rfl]
    refine iteF ?_
    refine ⟨.ref d, rfl, .ref v0, rfl, d, v0, m, z0, _, rfl, rfl, L9.xt, pv9.it, look hk, fun w3 hw3 => ⟨w3, _, rfl, .inr hw3.sq, fun l nl => ?_⟩⟩
    have sA := fun o => same_upd (H := H9) (o := o) nl
    have hwl : (way M (SR RD) k z0).length ≤ 5000 := by
      have h1 := way_len M (SR RD) k z0
      have h2 := depth_le (R.grade_all S) hk
      have h3 := SR_length RD
      have h4 := R.bnd
      omega
    refine ⟨.ref r, rfl, r, 3, rfl, L9.row.same (sA _), by decide, by decide, fun tn H11 sb11 row11 htn => ⟨(tn : Nat), rfl, by omega, by omega, ?_⟩⟩
    have L11 := (L9.same (sA _)).sb sb11 row11
    have e11 : H11 l = some (.lst ((way M (SR RD) k z0).map V.int)) := ints_sb (L9.row.same (sA _)) upd_same sb11
    refine for_walk walk_rng (fun j σ H' => ∃ (l : Addr) (ws : List Int) (y9 y10 y11 : Option V), σ = [some (.ref sc), some (.ref r), some (.ref t), some (.ref x), some (.ref d), some (.ref kn), some (.int (0 + (i : Int))), some (.ref v0), some (.ref l), y9, y10, y11, y12, y13, none] ∧ LS P w K r x d kn t M m cs H' ∧
        H' l = some (.lst (ws.map V.int)) ∧ (∀ z ∈ ws, 0 ≤ z ∧ z < (M.length : Nat)) ∧ ws.length ≤ 5000 + 2 * j)
      ⟨l, _, y9, y10, y11, rfl, L11, e11, fun z hz => ?_, hwl⟩ (fun _ _ _ _ _ => trivial) (fun j v σ H12 H13 hj h hy => ?_) (fun σ H12 h => ?_)
    · obtain ⟨q1, rfl, q2⟩ := way_mem M (SR RD) k z0 z hz
      omega
    · obtain ⟨l, ws, y9, y10, y11, rfl, L12, e12, hws, hwl2⟩ := h
      obtain ⟨rfl, rfl⟩ := hy
      have ell : (ws.map V.int).length = ws.length := List.length_map _
      refine ⟨.ref r, rfl, .ref l, rfl, l, _, rfl, .inl (.inl (.inl e12)), _, 1, rfl, rfl, r, ws.length + 1, congrArg (fun z => [V.ref r, V.int z]) (show ((ws.map V.int).length : Int) + 1 = ((ws.length + 1 : Nat) : Int) by omega), L12.row, by omega, by omega, fun ta H14 sb14 row14 hta => ?_⟩
      have L14 := L12.sb sb14 row14
      have e14 := ints_sb L12.row e12 sb14
      obtain ⟨rs, ett, ltt, _⟩ := L14.tt
      refine ⟨.ref r, rfl, .ref t, rfl, t, _, rfl, .inr (.inl (.inl ett)), r, M.length, congrArg (fun z => [V.ref r, V.int z]) (show ((rs.map V.ref).length : Int) = ((M.length : Nat) : Int) by rw [List.length_map, ltt]), row14, S.pos, by have := S.le; omega, fun la H15 sb15 row15 hla => ⟨_, _, rfl, ?_⟩⟩
      have L15 := L14.sb sb15 row15
      have e15 := ints_sb L14.row e14 sb15
      -- way[:at] + [lamp] * (1 + taken(row, 2)) + way[at + taken(row, 2):]
      refine ⟨.ref l, rfl, .int (ta : Nat), rfl, ta, rfl, l, _, rfl, .inl (.inl e15), fun p1 n1 => ?_⟩
      have ec1 : cutV (ws.map V.int) none (some ((ta : Nat) : Int)) = (ws.take ta).map V.int := by rw [cut_take, List.map_take]
      rw [ec1]
      have sP := fun o => same_upd (o := o) n1
      refine ⟨.int (la : Nat), rfl, by show 1 ≤ sizeLine; decide, fun p2 n2 => ?_⟩
      have sQ := fun o => (sP (.lst ((ws.take ta).map V.int))).trans (same_upd (o := o) n2)
      have q1 := same_upd (o := .lst [.int (la : Nat)]) n2 _ _ (upd_same (H := H15) (a := p1) (o := .lst ((ws.take ta).map V.int)))
      have q2 : (upd (upd H15 p1 (.lst ((ws.take ta).map V.int))) p2 (.lst [.int (la : Nat)])) p2 = some (.lst [.int (la : Nat)]) := upd_same
      have LQ := L15.same (sQ (.lst [.int (la : Nat)]))
      refine ⟨.ref r, rfl, r, 2, rfl, LQ.row, by decide, by decide, fun c H16 sb16 row16 hc => ?_⟩
      have L16 := LQ.sb sb16 row16
      have e16 := ints_sb LQ.row (sQ _ _ _ e15) sb16
      have q1' := ints_sb LQ.row q1 sb16
      have q2' := ints_sb (ns := [((la : Nat) : Int)]) LQ.row q2 sb16
      refine ⟨1, (c : Nat), rfl, rfl, p2, 1 + (c : Nat), _, rfl, rfl, q2', by omega, by omega, ?_, fun p3 n3 => ?_⟩
      · show 1 * (1 + (c : Int)).toNat ≤ sizeLine
        have := small1000 (show (1 + (c : Int)).toNat ≤ 1000 by omega)
        omega
      have er : (List.replicate (1 + (c : Int)).toNat ([((la : Nat) : Int)].map V.int)).flatten = (List.replicate (c + 1) ((la : Nat) : Int)).map V.int := by
        rw [show (1 + (c : Int)).toNat = c + 1 by omega]
        show (List.replicate (c + 1) [V.int (la : Nat)]).flatten = _
        rw [flat_rep]
        exact rep_int _ _
      rw [er]
      have sR := fun o => same_upd (o := o) n3
      refine ⟨p1, p3, _, _, rfl, rfl, sR _ _ _ q1', upd_same, ?_, fun p4 n4 => ?_⟩
      · simp only [List.length_map, List.length_take, List.length_replicate]
        exact Nat.le_of_lt (Nat.lt_of_le_of_lt (show _ ≤ 10000 by omega) (by decide))
      have sS := fun o => (sR (.lst ((List.replicate (c + 1) ((la : Nat) : Int)).map V.int))).trans (same_upd (o := o) n4)
      have LS4 := L16.same (sS (.lst ((ws.take ta).map V.int ++ (List.replicate (c + 1) ((la : Nat) : Int)).map V.int)))
      have eS := sS (.lst ((ws.take ta).map V.int ++ (List.replicate (c + 1) ((la : Nat) : Int)).map V.int)) _ _ e16
      refine ⟨.ref l, rfl, .int (ta : Nat), rfl, .ref r, rfl, r, 2, rfl, LS4.row, by decide, by decide, fun e H17 sb17 row17 he => ?_⟩
      have L17 := LS4.sb sb17 row17
      have e17 := ints_sb LS4.row eS sb17
      have q3 : (upd (upd H16 p3 (.lst ((List.replicate (c + 1) ((la : Nat) : Int)).map V.int))) p4 (.lst ((ws.take ta).map V.int ++ (List.replicate (c + 1) ((la : Nat) : Int)).map V.int))) p4 = some (.lst ((ws.take ta ++ List.replicate (c + 1) ((la : Nat) : Int)).map V.int)) := by rw [upd_same, List.map_append]
      have q4 := ints_sb LS4.row q3 sb17
      refine ⟨ta, e, rfl, rfl, ((ta : Nat) : Int) + ((e : Nat) : Int), rfl, ?_⟩
      dsimp only [tNoPart]
      refine ⟨l, _, rfl, .inl (.inl e17), fun p5 n5 => ?_⟩
      have ec2 : cutV (ws.map V.int) (some (((ta : Nat) : Int) + ((e : Nat) : Int))) none = (ws.drop (ta + e)).map V.int := by
        rw [show ((ta : Nat) : Int) + ((e : Nat) : Int) = ((ta + e : Nat) : Int) by omega, cut_drop, List.map_drop]
      rw [ec2]
      have sT := fun o => same_upd (o := o) n5
      refine ⟨p4, p5, _, _, rfl, rfl, sT _ _ _ q4, upd_same, ?_, fun p6 n6 => ?_⟩
      · simp only [List.length_map, List.length_append, List.length_take, List.length_replicate, List.length_drop]
        exact Nat.le_of_lt (Nat.lt_of_le_of_lt (show _ ≤ 20000 by omega) (by decide))
      have sU := fun o => (sT (.lst ((ws.drop (ta + e)).map V.int))).trans (same_upd (o := o) n6)
      refine ⟨p6, (ws.take ta ++ List.replicate (c + 1) ((la : Nat) : Int)) ++ ws.drop (ta + e), _, _, _, rfl, L17.same (sU _), upd_same.trans (congrArg some (congrArg HO.lst (show (ws.take ta ++ List.replicate (c + 1) ((la : Nat) : Int)).map V.int ++ (ws.drop (ta + e)).map V.int = ((ws.take ta ++ List.replicate (c + 1) ((la : Nat) : Int)) ++ ws.drop (ta + e)).map V.int from List.map_append.symm))), fun z hz => ?_, ?_⟩
      · rcases List.mem_append.mp hz with hz | hz
        · rcases List.mem_append.mp hz with hz | hz
          · exact hws z (List.mem_of_mem_take hz)
          · rw [List.eq_of_mem_replicate hz]
            omega
        · exact hws z (List.mem_of_mem_drop hz)
      · simp only [List.length_append, List.length_take, List.length_replicate, List.length_drop]
        omega
    · obtain ⟨l, ws, y9, y10, y11, rfl, L12, e12, hws, hwl2⟩ := h
      have ell : (ws.map V.int).length = ws.length := List.length_map _
      refine ⟨.ref v0, rfl, ?_⟩
      refine ⟨.ref l, rfl, l, rfl, ⟨_, .inl (.inl e12)⟩, for_walk (walk_list (xs := ws.map V.int)) (fun j σ H' => ∃ (nw : Addr) (y11 : Option V), σ = [some (.ref sc), some (.ref r), some (.ref t), some (.ref x), some (.ref d), some (.ref kn), some (.int (0 + (i : Int))), some (.ref v0), some (.ref l), y9, y10, y11, some (.ref nw), y13, none] ∧ LS P w K r x d kn t M m cs H' ∧
          H' l = some (.lst (ws.map V.int)) ∧ PT H' nw (along M z0 (ws.take j)) ∧ ∃ k', (along M z0 (ws.take j), k') ∈ SR RD)
        ⟨v0, y11, rfl, L12, e12, L12.pts _ hb, k, hk⟩ (fun j σ H' _ h => ?_) (fun j v σ H13 H14 hj h hy => ?_) (fun σ H13 h => ?_)⟩
      · obtain ⟨_, _, _, _, e13, _⟩ := h
        exact .inl (.inl e13)
      · obtain ⟨nw, y11', rfl, L13, e13, p13, k', hk'⟩ := h
        obtain ⟨rfl, hv⟩ := hy
        obtain ⟨z, rfl, hz⟩ := get_int hv
        have hz2 := hws z (List.mem_of_getElem? hz)
        obtain ⟨la, rfl⟩ : ∃ la : Nat, z = (la : Int) := ⟨z.toNat, by omega⟩
        refine ⟨.ref x, rfl, .ref nw, rfl, .int (la : Nat), rfl, x, nw, M, u, RD, _, la, rfl, ⟨L13.hall, S, W, R, p13, ⟨k', hk'⟩⟩, by omega, fun H15 t' s15 ht' => ?_⟩
        obtain ⟨k2, _, hk2⟩ := R.closed hk' (show la < M.length by omega)
        refine ⟨t', _, rfl, L13.same s15, s15 _ _ e13, ?_, k2, ?_⟩
        · rw [along_succ _ _ _ hz, Int.toNat_natCast]
          exact ht'
        · rw [along_succ _ _ _ hz, Int.toNat_natCast]
          exact hk2
      · obtain ⟨nw, y11', rfl, L13, e13, p13, k', hk'⟩ := h
        have etk : ws.take (ws.map V.int).length = ws := List.take_of_length_le (by simp)
        rw [etk] at p13 hk'
        refine ⟨.ref x, rfl, .ref v0, rfl, .ref l, rfl, l, _, rfl, .inl (.inl e13), fun tp ntp => ?_⟩
        have sV := fun o => same_upd (o := o) ntp
        have L14 := L13.same (sV (.tup (ws.map V.int)))
        refine ⟨x, v0, .ref tp, M, u, RD, z0, some ws, rfl, ⟨L14.hall, S, W, R, L14.pts _ hb, ⟨k, hk⟩⟩, .inl ⟨tp, ws, rfl, .inl upd_same, hws, by omega, rfl⟩, fun H15 s15 => ?_⟩
        have L15 := L14.same s15
        have p15 := (p13.same (sV (.tup (ws.map V.int)))).same s15
        obtain ⟨b, hbb⟩ : ∃ b, b = decide ((along M z0 ws).sum = 1) := ⟨_, rfl⟩
        dsimp only
        rw [← hbb]
        refine ⟨.bl b, rfl, .bl b, "bool", "bool", true, rfl, .base (.bl b), by decide +kernel, true, rfl, iteF ?_⟩
        refine ⟨.bl b, rfl, .ref d, rfl, .ref nw, rfl, d, nw, m, _, _, rfl, rfl, L15.xt, p15.it, look hk', fun w4 hw4 => ⟨by show 0 ≤ sizeLine; decide, fun e ne => ?_⟩⟩
        have sW := fun o => same_upd (o := o) ne
        have L16 := L15.same (sW (.tup []))
        refine ⟨w4, e, _, [], rfl, rfl, (hw4.same (sW (.tup []))).sq, .inl (.inl upd_same), _, rfl, ?_⟩
        have hun := R.unit_iff S hk'
        by_cases hw : way M (SR RD) k' (along M z0 ws) = []
        · rw [decide_eq_true hw]
          have hb1 : b = true := by rw [hbb]; exact decide_eq_true (hun.mp hw)
          have p16 := p15.same (sW (.tup []))
          refine ⟨.ref nw, rfl, .ref kn, rfl, nw, kn, _, cs, rfl, rfl, p16.it.sq, .inl (.inl L16.kn), fun b hb => (L16.pts b hb).it, by rfl, _, rfl, ?_⟩
          rw [decide_eq_true (hin hk'), decide_eq_true (show V.bl b = V.bl true by rw [hb1])]
          exact iteF ⟨_, _, _, _, _, _, _, _, rfl, L16, fun _ => ⟨v0, z0, rfl, L16.pts _ hb, k, hk⟩⟩
        · rw [decide_eq_false hw]
          have hb1 : b = false := by rw [hbb]; exact decide_eq_false fun z => hw (hun.mpr z)
          refine ⟨by rfl, _, rfl, ?_⟩
          rw [decide_eq_true (show V.bl b = V.bl false by rw [hb1])]
          exact iteF ⟨_, _, _, _, _, _, _, _, rfl, L16, fun _ => ⟨v0, z0, rfl, L16.pts _ hb, k, hk⟩⟩
  · obtain ⟨y6, y7, y8, y9, y10, y11, y12, y13, rfl, L, hv⟩ := h
    obtain ⟨v, z, rfl, pv7, k, hk⟩ := hv (by decide)
    have hwl : (way M (SR RD) k z).length ≤ 5000 := by
      have h1 := way_len M (SR RD) k z
      have h2 := depth_le (R.grade_all S) hk
      have h3 := SR_length RD
      have h4 := R.bnd
      omega
    refine ⟨.ref x, rfl, .ref v, rfl, x, v, M, u, RD, z, k, rfl, ⟨L.hall, S, W, R, pv7, ⟨k, hk⟩⟩, hk, fun G0 wr g0 hw0 => ?_⟩
    obtain ⟨ways, hways⟩ : ∃ ways, ways = way M (SR RD) k z := ⟨_, rfl⟩
    rw [← hways] at hwl hw0
    have N0 := L.same g0
    -- list(way)
    refine ⟨.ref wr, rfl, wr, _, rfl, .inr hw0.sq, fun a1 b1 => ?_⟩
    have g1 := same_upd (o := .lst (ways.map V.int)) b1
    have N1 := N0.same g1
    have hw1 := hw0.same g1
    have o1 : Odd K r M.length (upd G0 a1 (.lst (ways.map V.int))) (.ref a1) := odd_ty (T := "list") (fun H' s' => .base (.lst (ints_sb N1.row upd_same s'))) (by decide +kernel)
    -- way + (None,)
    refine ⟨.ref wr, rfl, by show 1 ≤ sizeLine; decide, fun t2 b2 => rd_tail (hw1.same (same_upd b2)) upd_same (by omega) fun G2 p2 g2 r2 => ?_⟩
    have s2 := (same_upd (o := .tup [.non]) b2).trans g2
    have N2 := N1.same s2
    have hw2 := hw1.same s2
    have o2 : Odd K r M.length G2 (.ref p2) := odd_tup N2.row r2 (by omega) (fun H' _ => .inr (.inr ⟨"NoneType", .base .non, by decide +kernel⟩)) rfl
    -- way + (len(pushes),)
    obtain ⟨rs, ett, ltt, _⟩ := N2.tt
    refine ⟨.ref wr, rfl, .ref t, rfl, t, _, rfl, .inr (.inl (.inl ett)), by show 1 ≤ sizeLine; decide, fun t3 b3 => rd_tail (hw2.same (same_upd b3)) upd_same (by omega) fun G3 p3 g3 r3 => ?_⟩
    have s3' := (same_upd (o := .tup [.int ((rs.map V.ref).length : Nat)]) b3).trans g3
    have N3 := N2.same s3'
    have hw3 := hw2.same s3'
    have o3 : Odd K r M.length G3 (.ref p3) := odd_tup N3.row r3 (by omega) (fun H' _ => .inl ⟨_, rfl⟩) (by
      rw [List.length_map, ltt]
      show (decide (0 ≤ ((M.length : Nat) : Int)) && decide (((M.length : Nat) : Int) ≤ (M.length : Int) - 1)) = false
      rw [decide_eq_false (show ¬ ((M.length : Nat) : Int) ≤ (M.length : Int) - 1 by omega), Bool.and_false])
    -- way + (-1,)
    refine ⟨.ref wr, rfl, 1, rfl, by show 1 ≤ sizeLine; decide, fun t4 b4 => rd_tail (hw3.same (same_upd b4)) upd_same (by omega) fun G4 p4 g4 r4 => ?_⟩
    have s4' := (same_upd (o := .tup [.int (-1)]) b4).trans g4
    have N4 := N3.same s4'
    have hw4 := hw3.same s4'
    have o4 : Odd K r M.length G4 (.ref p4) := odd_tup N4.row r4 (by omega) (fun H' _ => .inl ⟨_, rfl⟩) (by rfl)
    -- way + (True,)
    refine ⟨.ref wr, rfl, by show 1 ≤ sizeLine; decide, fun t5 b5 => rd_tail (hw4.same (same_upd b5)) upd_same (by omega) fun G5 p5 g5 r5 => ?_⟩
    have s5' := (same_upd (o := .tup [.bl true]) b5).trans g5
    have N5 := N4.same s5'
    have hw5 := hw4.same s5'
    have o5 : Odd K r M.length G5 (.ref p5) := odd_tup N5.row r5 (by omega) (fun H' _ => .inr (.inl ⟨_, rfl⟩)) rfl
    -- way + ([0],)
    refine ⟨.ref wr, rfl, by show 1 ≤ sizeLine; decide, fun e6 c6 => ⟨by show 1 ≤ sizeLine; decide, fun t6 b6 => rd_tail ((hw5.same (same_upd c6)).same (same_upd b6)) upd_same (by omega) fun G6 p6 g6 r6 => ?_⟩⟩
    have s6' := ((same_upd (o := .lst [.int 0]) c6).trans (same_upd (o := .tup [.ref e6]) b6)).trans g6
    have N6 := N5.same s6'
    have hw6 := hw5.same s6'
    have he6 : G6 e6 = some (.lst ([(0 : Int)].map V.int)) := g6 _ _ (same_upd b6 _ _ upd_same)
    have o6 : Odd K r M.length G6 (.ref p6) := odd_tup N6.row r6 (by omega) (fun H' s' => .inr (.inr ⟨"list", .base (.lst (ints_sb N6.row he6 s')), by decide +kernel⟩)) rfl
    refine ⟨by show 7 ≤ sizeLine; decide, fun l7 b7 => ?_⟩
    have s7' := same_upd (o := .lst [.non, .ref a1, .ref p2, .ref p3, .ref p4, .ref p5, .ref p6]) b7
    have N7 := N6.same s7'
    have hw7 := hw6.same s7'
    -- the last call
    refine ⟨.ref x, rfl, .ref v, rfl, .ref r, rfl, .ref l7, rfl, .ref wr, rfl, by show 0 ≤ sizeLine; decide, fun e8 c8 => ⟨by show 1 ≤ sizeLine; decide, fun t8 b8 => rd_tail ((hw7.same (same_upd c8)).same (same_upd b8)) upd_same (by omega) fun G8 p8 g8 r8 => ?_⟩⟩
    have s8' := ((same_upd (o := .tup []) c8).trans (same_upd (o := .tup [.ref e8]) b8)).trans g8
    have N8 := N7.same s8'
    have he8 : G8 e8 = some (.tup []) := g8 _ _ (same_upd b8 _ _ upd_same)
    have o8 : Odd K r M.length G8 (.ref p8) := odd_tup N8.row r8 (by omega) (fun H' s' => .inr (.inr ⟨"tuple", .base (.tup (s' _ _ (row_nl N8.row he8 fun _ z => nomatch z) he8)), by decide +kernel⟩)) rfl
    refine fun d9 c9 => ?_
    have s9' := same_upd (o := .dK []) c9
    have N9 := N8.same s9'
    have o9 : Odd K r M.length (upd G8 d9 (.dK [])) (.ref d9) := odd_ty (T := "dict") (fun H' s' => .base (.dK (s' _ _ (row_nl (o := .dK []) N9.row upd_same fun _ z => nomatch z) upd_same))) (by decide +kernel)
    refine ⟨by show 4 ≤ sizeLine; decide, fun la ba => ?_⟩
    have sa' := same_upd (o := .lst [.ref p8, .ref d9, .int 0, .str "way"]) ba
    have Na := N9.same sa'
    refine ⟨l7, la, _, _, rfl, rfl, sa' _ _ (s9' _ _ (s8' _ _ upd_same)), upd_same, by show 7 + 4 ≤ sizeLine; decide, fun lb bb => ?_⟩
    have sb' := same_upd (o := .lst ([.non, .ref a1, .ref p2, .ref p3, .ref p4, .ref p5, .ref p6] ++ [.ref p8, .ref d9, .int 0, .str "way"])) bb
    have Nb := Na.same sb'
    have t9 := sa'.trans sb'
    have t8 := s9'.trans t9
    have t7 := s8'.trans t8
    have t6 := s7'.trans t7
    have t5 := s6'.trans t6
    have t4 := s5'.trans t5
    have t3 := s4'.trans t4
    have t2 := s3'.trans t3
    have t1 := s2.trans t2
    have lbr : lb ≠ r := by
      obtain ⟨xs, e, _⟩ := Na.row.some
      exact ne_fresh e bb
    refine ⟨r, lb, _, rfl, Nb.row, upd_same, lbr, by show 1 ≤ 11; decide, by show 11 < 1000000; decide, fun j val Gz sz rowz ev => ?_⟩
    have hodd : ∀ val ∈ [V.non, .ref a1, .ref p2, .ref p3, .ref p4, .ref p5, .ref p6] ++ [.ref p8, .ref d9, .int 0, .str "way"], Third K Gz M.length val none := by
      intro val hval
      simp only [List.cons_append, List.nil_append, List.mem_cons, List.not_mem_nil, or_false] at hval
      rcases hval with rfl | rfl | rfl | rfl | rfl | rfl | rfl | rfl | rfl | rfl | rfl
      · exact .inr (.inl ⟨"NoneType", .base .non, by decide +kernel, rfl⟩)
      · exact (o1.same t1) Gz sz
      · exact (o2.same t2) Gz sz
      · exact (o3.same t3) Gz sz
      · exact (o4.same t4) Gz sz
      · exact (o5.same t5) Gz sz
      · exact (o6.same t6) Gz sz
      · exact (o8.same t8) Gz sz
      · exact (o9.same t9) Gz sz
      · exact .inr (.inl ⟨"int", .base (.int 0), by decide +kernel, rfl⟩)
      · exact .inr (.inl ⟨"str", .base (.str _), by decide +kernel, rfl⟩)
    have Nz := Nb.sb sz rowz
    have pvz : PT Gz v z := ((((pv7.same g0).same g1).same t1)).rb Nb.row sz
    exact ⟨x, v, val, M, u, RD, z, none, rfl, ⟨Nz.hall, S, W, R, pvz, ⟨k, hk⟩⟩, hodd val (List.mem_of_getElem? ev), fun H' _ => ⟨false, rfl, q H'⟩⟩
end
end K31

set_option Elab.async false
set_option linter.all false
set_option maxRecDepth 100000
set_option maxHeartbeats 0
namespace K31
open PySem PySem.Spec PyProof.Rows L2
/-! ### the facts, the head -/
theorem insC_of {K : PySem.W.Frag} (cl : Cls K (cH K)) (h : hallB K = true) : C8.InsC K (cH K) := by
  unfold hallB at h
  obtain ⟨h1, h⟩ := Bool.and_eq_true_iff.mp h
  obtain ⟨h2, h⟩ := Bool.and_eq_true_iff.mp h
  obtain ⟨h3, h⟩ := Bool.and_eq_true_iff.mp h
  obtain ⟨h4, h5⟩ := Bool.and_eq_true_iff.mp h
  exact ⟨cl, He.eqO_ok h1, He.eqO_ok h2, of_decide_eq_true h3, of_decide_eq_true h4, of_decide_eq_true h5⟩
section
variable {P : Program} {w : World} {K : PySem.W.Frag} {h : Heap} {mg : Str → Option Value}
theorem ev_of (X : K.In h) (G : h.Ns mainGlobals mg) (c : SaysK K) : Ev K mg where
  len := He.free_ok X G (c.d.fact 46 (f := .free "len") rfl)
  isi := He.free_ok X G (c.d.fact 47 (f := .free "isinstance") rfl)
  all := He.free_ok X G (c.d.fact 48 (f := .free "all") rfl)
  tup := He.free_ok X G (c.d.fact 49 (f := .free "tuple") rfl)
  srt := He.free_ok X G (c.d.fact 50 (f := .free "sorted") rfl)
  sum := He.free_ok X G (c.d.fact 51 (f := .free "sum") rfl)
  zip := He.free_ok X G (c.d.fact 52 (f := .free "zip") rfl)
  enu := He.free_ok X G (c.d.fact 53 (f := .free "enumerate") rfl)
  rng := He.free_ok X G (c.d.fact 54 (f := .free "range") rfl)
  max := He.free_ok X G (c.d.fact 55 (f := .free "max") rfl)
  min := He.free_ok X G (c.d.fact 56 (f := .free "min") rfl)
  lst := He.free_ok X G (c.d.fact 57 (f := .free "list") rfl)
  dic := He.free_ok X G (c.d.fact 58 (f := .free "dict") rfl)
  int := He.free_ok X G (c.d.fact 59 (f := .free "int") rfl)
  bool := He.free_ok X G (c.d.fact 60 (f := .free "bool") rfl)
  lamps := He.int_ok X G (c.d.fact 40 (f := .int "MOST_LAMPS" 8) rfl)
  push := He.int_ok X G (c.d.fact 41 (f := .int "MOST_PUSH" 4) rfl)
  load := He.int_ok X G (c.d.fact 42 (f := .int "MOST_LOAD" 400) rfl)
  ending := He.str_ok X G (c.d.fact 43 (f := .str "ENDING" "ending") rfl)
  flat := He.str_ok X G (c.d.fact 44 (f := .str "FLAT" "flat") rfl)
  wild := He.str_ok X G (c.d.fact 45 (f := .str "WILD" "wild") rfl)
  hall := He.glo_ok X G (c.d.fact 35 (f := .glo "Hall") rfl)
  cls := He.cls_ok (c.d.fact 36 (f := .cls "Hall") rfl)
  told := He.noat_ok (c.d.fact 37 (f := .noat "Hall" "told") rfl)
  mkr := He.mkr_ok (c.d.fact 38 (f := .mkr "Hall") rfl)
  hlen := He.meth_ok (c.d.fact 39 (f := .meth "Hall" "__len__") rfl)
  ins := insC_of (He.cls_ok (c.d.fact 36 (f := .cls "Hall") rfl)) c.hall
theorem dd_is_from (X : K.In h) (G : h.Ns mainGlobals mg) (c : SaysK K) : Dd K mg "is_from" s_is_from := by
  obtain ⟨fd, F⟩ := c.d.def_ 0 (d := d_is_from) rfl
  exact ⟨_, fd, F, He.glo_ok X G (c.d.fact 0 (f := .glo "is_from") rfl)⟩
theorem dd_are_pushes (X : K.In h) (G : h.Ns mainGlobals mg) (c : SaysK K) : Dd K mg "are_pushes" s_are_pushes := by
  obtain ⟨fd, F⟩ := c.d.def_ 1 (d := d_are_pushes) rfl
  exact ⟨_, fd, F, He.glo_ok X G (c.d.fact 1 (f := .glo "are_pushes") rfl)⟩
theorem dd_need_hall (X : K.In h) (G : h.Ns mainGlobals mg) (c : SaysK K) : Dd K mg "need_hall" s_need_hall := by
  obtain ⟨fd, F⟩ := c.d.def_ 2 (d := d_need_hall) rfl
  exact ⟨_, fd, F, He.glo_ok X G (c.d.fact 2 (f := .glo "need_hall") rfl)⟩
theorem dd_need_lamp (X : K.In h) (G : h.Ns mainGlobals mg) (c : SaysK K) : Dd K mg "need_lamp" s_need_lamp := by
  obtain ⟨fd, F⟩ := c.d.def_ 3 (d := d_need_lamp) rfl
  exact ⟨_, fd, F, He.glo_ok X G (c.d.fact 3 (f := .glo "need_lamp") rfl)⟩
theorem dd_neighbours_of (X : K.In h) (G : h.Ns mainGlobals mg) (c : SaysK K) : Dd K mg "neighbours_of" s_neighbours_of := by
  obtain ⟨fd, F⟩ := c.d.def_ 4 (d := d_neighbours_of) rfl
  exact ⟨_, fd, F, He.glo_ok X G (c.d.fact 4 (f := .glo "neighbours_of") rfl)⟩
theorem dd_joined_to (X : K.In h) (G : h.Ns mainGlobals mg) (c : SaysK K) : Dd K mg "joined_to" s_joined_to := by
  obtain ⟨fd, F⟩ := c.d.def_ 5 (d := d_joined_to) rfl
  exact ⟨_, fd, F, He.glo_ok X G (c.d.fact 5 (f := .glo "joined_to") rfl)⟩
theorem dd_wings_of (X : K.In h) (G : h.Ns mainGlobals mg) (c : SaysK K) : Dd K mg "wings_of" s_wings_of := by
  obtain ⟨fd, F⟩ := c.d.def_ 6 (d := d_wings_of) rfl
  exact ⟨_, fd, F, He.glo_ok X G (c.d.fact 6 (f := .glo "wings_of") rfl)⟩
theorem dd_weight (X : K.In h) (G : h.Ns mainGlobals mg) (c : SaysK K) : Dd K mg "weight" s_weight := by
  obtain ⟨fd, F⟩ := c.d.def_ 7 (d := d_weight) rfl
  exact ⟨_, fd, F, He.glo_ok X G (c.d.fact 7 (f := .glo "weight") rfl)⟩
theorem dd_least_over (X : K.In h) (G : h.Ns mainGlobals mg) (c : SaysK K) : Dd K mg "least_over" s_least_over := by
  obtain ⟨fd, F⟩ := c.d.def_ 8 (d := d_least_over) rfl
  exact ⟨_, fd, F, He.glo_ok X G (c.d.fact 8 (f := .glo "least_over") rfl)⟩
theorem dd_word_of (X : K.In h) (G : h.Ns mainGlobals mg) (c : SaysK K) : Dd K mg "word_of" s_word_of := by
  obtain ⟨fd, F⟩ := c.d.def_ 9 (d := d_word_of) rfl
  exact ⟨_, fd, F, He.glo_ok X G (c.d.fact 9 (f := .glo "word_of") rfl)⟩
theorem dd_kind_of (X : K.In h) (G : h.Ns mainGlobals mg) (c : SaysK K) : Dd K mg "kind_of" s_kind_of := by
  obtain ⟨fd, F⟩ := c.d.def_ 10 (d := d_kind_of) rfl
  exact ⟨_, fd, F, He.glo_ok X G (c.d.fact 10 (f := .glo "kind_of") rfl)⟩
theorem dd_are_numbers (X : K.In h) (G : h.Ns mainGlobals mg) (c : SaysK K) : Dd K mg "are_numbers" s_are_numbers := by
  obtain ⟨fd, F⟩ := c.d.def_ 11 (d := d_are_numbers) rfl
  exact ⟨_, fd, F, He.glo_ok X G (c.d.fact 11 (f := .glo "are_numbers") rfl)⟩
theorem dd_need_ending (X : K.In h) (G : h.Ns mainGlobals mg) (c : SaysK K) : Dd K mg "need_ending" s_need_ending := by
  obtain ⟨fd, F⟩ := c.d.def_ 12 (d := d_need_ending) rfl
  exact ⟨_, fd, F, He.glo_ok X G (c.d.fact 12 (f := .glo "need_ending") rfl)⟩
theorem dd_unit_of (X : K.In h) (G : h.Ns mainGlobals mg) (c : SaysK K) : Dd K mg "unit_of" s_unit_of := by
  obtain ⟨fd, F⟩ := c.d.def_ 13 (d := d_unit_of) rfl
  exact ⟨_, fd, F, He.glo_ok X G (c.d.fact 13 (f := .glo "unit_of") rfl)⟩
theorem dd_turned (X : K.In h) (G : h.Ns mainGlobals mg) (c : SaysK K) : Dd K mg "turned" s_turned := by
  obtain ⟨fd, F⟩ := c.d.def_ 14 (d := d_turned) rfl
  exact ⟨_, fd, F, He.glo_ok X G (c.d.fact 14 (f := .glo "turned") rfl)⟩
theorem dd_all_up (X : K.In h) (G : h.Ns mainGlobals mg) (c : SaysK K) : Dd K mg "all_up" s_all_up := by
  obtain ⟨fd, F⟩ := c.d.def_ 15 (d := d_all_up) rfl
  exact ⟨_, fd, F, He.glo_ok X G (c.d.fact 15 (f := .glo "all_up") rfl)⟩
theorem dd_height_of (X : K.In h) (G : h.Ns mainGlobals mg) (c : SaysK K) : Dd K mg "height_of" s_height_of := by
  obtain ⟨fd, F⟩ := c.d.def_ 16 (d := d_height_of) rfl
  exact ⟨_, fd, F, He.glo_ok X G (c.d.fact 16 (f := .glo "height_of") rfl)⟩
theorem dd_turned_up (X : K.In h) (G : h.Ns mainGlobals mg) (c : SaysK K) : Dd K mg "turned_up" s_turned_up := by
  obtain ⟨fd, F⟩ := c.d.def_ 17 (d := d_turned_up) rfl
  exact ⟨_, fd, F, He.glo_ok X G (c.d.fact 17 (f := .glo "turned_up") rfl)⟩
theorem dd_is_any_arrow (X : K.In h) (G : h.Ns mainGlobals mg) (c : SaysK K) : Dd K mg "is_any_arrow" s_is_any_arrow := by
  obtain ⟨fd, F⟩ := c.d.def_ 18 (d := d_is_any_arrow) rfl
  exact ⟨_, fd, F, He.glo_ok X G (c.d.fact 18 (f := .glo "is_any_arrow") rfl)⟩
theorem dd_need_arrow (X : K.In h) (G : h.Ns mainGlobals mg) (c : SaysK K) : Dd K mg "need_arrow" s_need_arrow := by
  obtain ⟨fd, F⟩ := c.d.def_ 19 (d := d_need_arrow) rfl
  exact ⟨_, fd, F, He.glo_ok X G (c.d.fact 19 (f := .glo "need_arrow") rfl)⟩
theorem dd_arrows (X : K.In h) (G : h.Ns mainGlobals mg) (c : SaysK K) : Dd K mg "arrows" s_arrows := by
  obtain ⟨fd, F⟩ := c.d.def_ 20 (d := d_arrows) rfl
  exact ⟨_, fd, F, He.glo_ok X G (c.d.fact 20 (f := .glo "arrows") rfl)⟩
theorem dd_turned_arrow (X : K.In h) (G : h.Ns mainGlobals mg) (c : SaysK K) : Dd K mg "turned_arrow" s_turned_arrow := by
  obtain ⟨fd, F⟩ := c.d.def_ 21 (d := d_turned_arrow) rfl
  exact ⟨_, fd, F, He.glo_ok X G (c.d.fact 21 (f := .glo "turned_arrow") rfl)⟩
theorem dd_way_of (X : K.In h) (G : h.Ns mainGlobals mg) (c : SaysK K) : Dd K mg "way_of" s_way_of := by
  obtain ⟨fd, F⟩ := c.d.def_ 22 (d := d_way_of) rfl
  exact ⟨_, fd, F, He.glo_ok X G (c.d.fact 22 (f := .glo "way_of") rfl)⟩
theorem dd_way_to_unit (X : K.In h) (G : h.Ns mainGlobals mg) (c : SaysK K) : Dd K mg "way_to_unit" s_way_to_unit := by
  obtain ⟨fd, F⟩ := c.d.def_ 23 (d := d_way_to_unit) rfl
  exact ⟨_, fd, F, He.glo_ok X G (c.d.fact 23 (f := .glo "way_to_unit") rfl)⟩
theorem dd_shows_way (X : K.In h) (G : h.Ns mainGlobals mg) (c : SaysK K) : Dd K mg "shows_way" s_shows_way := by
  obtain ⟨fd, F⟩ := c.d.def_ 24 (d := d_shows_way) rfl
  exact ⟨_, fd, F, He.glo_ok X G (c.d.fact 24 (f := .glo "shows_way") rfl)⟩
theorem dd_law_taken (X : K.In h) (G : h.Ns mainGlobals mg) (c : SaysK K) : Dd K mg "_law_taken" s_law_taken := by
  obtain ⟨fd, F⟩ := c.d.def_ 25 (d := d_law_taken) rfl
  exact ⟨_, fd, F, He.glo_ok X G (c.d.fact 25 (f := .glo "_law_taken") rfl)⟩
theorem dd_law_pick (X : K.In h) (G : h.Ns mainGlobals mg) (c : SaysK K) : Dd K mg "_law_pick" s_law_pick := by
  obtain ⟨fd, F⟩ := c.d.def_ 26 (d := d_law_pick) rfl
  exact ⟨_, fd, F, He.glo_ok X G (c.d.fact 26 (f := .glo "_law_pick") rfl)⟩
theorem dd_law_named (X : K.In h) (G : h.Ns mainGlobals mg) (c : SaysK K) : Dd K mg "_law_named" s_law_named := by
  obtain ⟨fd, F⟩ := c.d.def_ 27 (d := d_law_named) rfl
  exact ⟨_, fd, F, He.glo_ok X G (c.d.fact 27 (f := .glo "_law_named") rfl)⟩
theorem dd_law_names (X : K.In h) (G : h.Ns mainGlobals mg) (c : SaysK K) : Dd K mg "_law_names" s_law_names := by
  obtain ⟨fd, F⟩ := c.d.def_ 28 (d := d_law_names) rfl
  exact ⟨_, fd, F, He.glo_ok X G (c.d.fact 28 (f := .glo "_law_names") rfl)⟩
theorem dd_law_mixed (X : K.In h) (G : h.Ns mainGlobals mg) (c : SaysK K) : Dd K mg "_law_mixed" s_law_mixed := by
  obtain ⟨fd, F⟩ := c.d.def_ 29 (d := d_law_mixed) rfl
  exact ⟨_, fd, F, He.glo_ok X G (c.d.fact 29 (f := .glo "_law_mixed") rfl)⟩
theorem dd_law_beside (X : K.In h) (G : h.Ns mainGlobals mg) (c : SaysK K) : Dd K mg "_law_beside" s_law_beside := by
  obtain ⟨fd, F⟩ := c.d.def_ 30 (d := d_law_beside) rfl
  exact ⟨_, fd, F, He.glo_ok X G (c.d.fact 30 (f := .glo "_law_beside") rfl)⟩
theorem dd_law_ending (X : K.In h) (G : h.Ns mainGlobals mg) (c : SaysK K) : Dd K mg "_law_ending" s_law_ending := by
  obtain ⟨fd, F⟩ := c.d.def_ 31 (d := d_law_ending) rfl
  exact ⟨_, fd, F, He.glo_ok X G (c.d.fact 31 (f := .glo "_law_ending") rfl)⟩
theorem dd_law_turn (X : K.In h) (G : h.Ns mainGlobals mg) (c : SaysK K) : Dd K mg "_law_turn" s_law_turn := by
  obtain ⟨fd, F⟩ := c.d.def_ 32 (d := d_law_turn) rfl
  exact ⟨_, fd, F, He.glo_ok X G (c.d.fact 32 (f := .glo "_law_turn") rfl)⟩
theorem dd_law_ways (X : K.In h) (G : h.Ns mainGlobals mg) (c : SaysK K) : Dd K mg "_law_ways" s_law_ways := by
  obtain ⟨fd, F⟩ := c.d.def_ 33 (d := d_law_ways) rfl
  exact ⟨_, fd, F, He.glo_ok X G (c.d.fact 33 (f := .glo "_law_ways") rfl)⟩
theorem dd_law (X : K.In h) (G : h.Ns mainGlobals mg) (c : SaysK K) : Dd K mg "law" s_law := by
  obtain ⟨fd, F⟩ := c.d.def_ 34 (d := d_law) rfl
  exact ⟨_, fd, F, He.glo_ok X G (c.d.fact 34 (f := .glo "law") rfl)⟩
theorem dm_Hall_init (c : SaysK K) : DdM K "__init__" "Hall.__init__" s_Hall_init (He.ma K (cH K) "__init__") := by
  obtain ⟨fd, F⟩ := c.d.def_ 35 (d := d_Hall_init) rfl
  exact ⟨fd, F⟩
theorem dm_Hall_len (c : SaysK K) : DdM K "__len__" "Hall.__len__" s_Hall_len (He.ma K (cH K) "__len__") := by
  obtain ⟨fd, F⟩ := c.d.def_ 36 (d := d_Hall_len) rfl
  exact ⟨fd, F⟩
theorem law_fn {f : Addr} {fd : FuncData} (X : K.In h) (G : h.Ns mainGlobals mg) (c : SaysK K) (base : Heap) (F : FnP K "law" s_law f fd) : FnOk P w K mg base CX0 8 f fd ["_law_script"] (spLaw K) := by
  have E := ev_of X G c
  have L : CaLen P w K mg base := ok_hlen E (dm_Hall_len c)
  have is_from := ok_is_from (P := P) (w := w) (base := base) E (dd_is_from X G c)
  have are_pushes := ok_are_pushes E (dd_are_pushes X G c) is_from
  have init := ok_init E (dm_Hall_init c) are_pushes
  have need_hall := ok_need_hall (P := P) (w := w) (base := base) E (dd_need_hall X G c)
  have need_lamp := ok_need_lamp E (dd_need_lamp X G c) is_from L
  have nbr := ok_nbr (P := P) (w := w) (base := base) E (dd_neighbours_of X G c)
  have joined := ok_joined E (dd_joined_to X G c) nbr
  have wings := ok_wings E (dd_wings_of X G c) L joined
  have weightL := ok_weight (P := P) (w := w) (base := base) .li E (dd_weight X G c)
  have weightT := ok_weight (P := P) (w := w) (base := base) .tu E (dd_weight X G c)
  have least := ok_least E (dd_least_over X G c) weightL
  have word := ok_word E (dd_word_of X G c) weightT
  have kind := ok_kind E (dd_kind_of X G c) least word
  have need_ending := ok_need_ending E (dd_need_ending X G c) need_hall wings kind
  have numbers := ok_numbers E (dd_are_numbers X G c) L
  have unit := ok_unit E (dd_unit_of X G c) L
  have turned := ok_turned (P := P) (w := w) (base := base) E (dd_turned X G c)
  have height := ok_height (P := P) (w := w) (base := base) E (dd_height_of X G c)
  have tup := ok_tup (P := P) (w := w) (base := base) E (dd_turned_up X G c)
  have all_up := ok_all_up E (dd_all_up X G c) L unit turned
  have is_arrow := ok_is_arrow E (dd_is_any_arrow X G c) numbers tup all_up
  have need_arrow := ok_need_arrow E (dd_need_arrow X G c) need_ending is_arrow
  have arrows := ok_arrows E (dd_arrows X G c) need_ending all_up height
  have turned_arrow := ok_turned_arrow E (dd_turned_arrow X G c) need_arrow need_lamp turned
  have way_of := ok_way_of E (dd_way_of X G c) tup all_up turned
  have way := ok_way E (dd_way_to_unit X G c) need_arrow way_of
  have shows := ok_shows E (dd_shows_way X G c) L need_arrow is_from turned
  have taken := ok_taken (P := P) (w := w) (base := base) E (dd_law_taken X G c)
  have pick := ok_pick E (dd_law_pick X G c) taken
  have names := ok_names (P := P) (w := w) (base := base) E (dd_law_names X G c)
  have named := ok_named (P := P) (w := w) (base := base) E (dd_law_named X G c)
  have mixed := ok_mixed E (dd_law_mixed X G c) taken
  have beside := ok_beside (P := P) (w := w) (base := base) E (dd_law_beside X G c)
  have ending := ok_ending E (dd_law_ending X G c) taken pick names named beside mixed
  have lturn := ok_lturn (P := P) (w := w) (base := base) E (dd_law_turn X G c)
  have lways := ok_lways E (dd_law_ways X G c) lturn
  exact ok_law E F init ending lways arrows pick taken way turned_arrow shows
end
theorem facts {P : Program} {w : World} {K : PySem.W.Frag} {h : Heap} {mg : Str → Option Value} {f : Addr} (X : K.In h) (G : h.Ns mainGlobals mg) (hfa : mg ("law" : Str) = some (.ref f)) (c : SaysK K) :
    ∃ fd : FuncData, (∀ (s : Shared) (v : Value), BindsTo s fd ⟨[v], []⟩ [("_law_script", v)]) ∧ ∀ base : Heap, K.In base → base.Ns mainGlobals mg → FnOk P w K mg base CX0 8 f fd ["_law_script"] (spLaw K) := by
  obtain ⟨fd, F⟩ := c.d.def_ 34 (d := d_law) rfl
  have e := hfa.symm.trans (He.glo_ok X G (c.d.fact 34 (f := .glo "law") rfl))
  cases e
  have b := FunD.bindsA (ps := ["_law_script"]) F fun _ _ _ _ _ _ us hl => match us, hl with | [_], _ => rfl
  exact ⟨fd, fun s v => b s [v] rfl, fun base _ _ => law_fn X G c base F⟩
end K31
open PySem PySem.W PySem.Calls PyProof.Rows
theorem PySem.Challenge.cw_kaleidorooms_k31_whole_ways_holds : PySem.Challenge.rw_kaleidorooms_k31_whole_ways.Holds := by
  w_on; o_law
  refine HandSHeadRun.head_any (r := OpenLaw.row PySem.Challenge.rw_kaleidorooms_k31_whole_ways) (q := view (OpenLaw.row PySem.Challenge.rw_kaleidorooms_k31_whole_ways).prog [54]) (H := K31.hookK 5) (ob := K31.ob) (M := 4000) (loose := K31.nms) (d := HandSHeadRun.topDef (OpenLaw.row PySem.Challenge.rw_kaleidorooms_k31_whole_ways).prog 54) (kwd := []) K31.ob_eq
    (by kernel_rfl) (fun s => by kernel_rfl) K31.run (by kernel_rfl) (by kernel_rfl) (by kernel_rfl) (by rfl) (by first | assumption | decide +kernel) (by decide +kernel) ⟨rfl, rfl, rfl, rfl, rfl, by decide +kernel⟩ ?hw ?hc
  case hw => w_witness2
  case hc =>
    refine L2.walk_ofE (l := PySem.Challenge.rw_kaleidorooms_k31_whole_ways) (n := 63) (k := 8) (x := "_law_script") (CX := L2.CX0) rfl (by decide) (by kernel_rfl) ⟨rfl, by decide, by decide⟩ ?F (fun _ _ _ _ z => z)
    intro w mg fa h Y G hmg0
    obtain ⟨K, KX, c⟩ := Y
    have hmg : mg ("law" : PySem.Str) = some (.ref fa) := by
      have e : (HandSHeadRun.topDef (OpenLaw.row PySem.Challenge.rw_kaleidorooms_k31_whole_ways).prog 54).name = ("law" : PySem.Str) := by kernel_rfl
      rw [← e]
      exact hmg0
    obtain ⟨fd, hb, hF⟩ := K31.facts (P := (PySem.Challenge.rw_kaleidorooms_k31_whole_ways).prog) (w := w) KX G hmg c
    exact ⟨K, fd, K31.spLaw K, KX, hb, fun H a ns hl _ hS => ⟨a, ns, rfl, hS, fun _ => rfl⟩, hF⟩
